/- Walks (lines of the print; no condition). -/
import Derived.Test.YtmgdjmeoljepgaaZFnProgBelowQFnProgBelowx15
namespace Go.Proofs.Ytmgdjmeoljepgaa.PFnProgBelow
open Go.RowKit Go.Proofs.YtmgdjmeoljepgaaW.PrintWords Go.Proofs.YtmgdjmeoljepgaaW.PrintLast Go.Proofs.YtmgdjmeoljepgaaW.PrintMore
attribute [local go_sem] max2_int min2_int max_two min_two max_three min_three max_four min_four
set_option linter.unusedVariables false
set_option linter.unusedSimpArgs false
set_option maxHeartbeats 8000000
set_option maxRecDepth 100000
def spec_DrawProgBelow.f (k : Nat) (l0 : List Int) : Option ((List (S48)) × Int):=(spec_newSource.f l0).bind fun aA => ((spec_source_prog.f k aA.1 aA.2.1 aA.2.2).bind fun aB => ((spec_source_pick.f k aA.1 aB.2.1 aB.2.2 (aB.1.length : Int)).bind fun aC => ((spec_source_pick.f k aA.1 aC.2.1 aC.2.2 (aB.1.length : Int)).bind fun aD => ((spec_source_one.f k aA.1 aD.2.1 aD.2.2 (([aC.1,aD.1,(-1),(aB.1.length : Int)] : List Int))).bind fun aE => (some (aB.1,aE.1))))))
theorem spec_DrawProgBelow.calls (k : Nat) (A0 : Option Addr) (c0 : Nat) (l0 : List Int) (r1 : List (S48)) (r2 : Int) (w : World) (a2 : Kd.C (Kd.int .u8) w A0 l0.length l0) (hc0 : l0.length ≤ c0) (h : spec_DrawProgBelow.f k l0 = some (r1,r2)) :
  Calls Try.prog 4 #[.slice A0 l0.length c0] w fun e w' => ∃ a3 : Value,e = .returned (.tuple #[a3,.int .i64 r2]) ∧ Kd.N k48 48 w' w.heap.size (fun k_ => (w.heap.size ≤ k_)) a3 r1 ∧ Below w.heap.size w w':=by
 have bA:=A_ a2;have bB:=A_ hc0;clear a2 hc0;have HB:=A_ (Below.refl w.heap.size w);have H:=h;unfold spec_DrawProgBelow.f at H;clear h;replace H:=bS H;obtain ⟨⟨aF,aO,aP⟩,a4,H⟩:=H
 try dsimp only at H
 have A2:=A_ a4;clear a4;replace H:=bS H;obtain ⟨⟨aD,aQ,aR⟩,a5,H⟩:=H
 try dsimp only at H
 have A3:=A_ a5;clear a5;replace H:=bS H;obtain ⟨⟨aG,aS,aT⟩,a6,H⟩:=H
 try dsimp only at H
 have A4:=A_ a6;clear a6;replace H:=bS H;obtain ⟨⟨aH,aK,aL⟩,a7,H⟩:=H
 try dsimp only at H
 have A5:=A_ a7;clear a7;obtain ⟨aM,aJ⟩ : ∃ y_ : List Int,y_ = (([aG,aH,(-1),(aD.length : Int)] : List Int)):=⟨_,rfl⟩;replace H : ((spec_source_one.f k aF aK aL aM).bind fun aU => (some (aD,aU.1))) = some (r1,r2):=yH aJ;have aN:=A_ aJ;clear aJ;replace H:=bS H;obtain ⟨⟨aX,aY,aZ⟩,a8,H⟩:=H
 try dsimp only at H
 have A6:=A_ a8;clear a8;simp only [Option.some.injEq,Prod.mk.injEq] at H;obtain ⟨rfl,rfl⟩:=H
 go_enter Try.func4,Try.ntmps4
 go_wp2_with (first | ((with_reducible refine gate_callee (f:=9) rfl ?_);refine gL 7 Try.func9 #[.slice A0 l0.length c0] ?_;(with_reducible refine (spec_newSource.calls _ _ l0 aF aO aP w _ ?s1 bA.out bB.out A2.out).mono ?_);(case s1 => exact Z2);rintro e w7 ⟨aB,rfl,hi,hb,bF⟩;refine ⟨_,rfl,?_⟩;replace HB:=A_ hb;have aA:=A_ hi;(try clear hb)) | ((with_reducible refine gate_callee (f:=10) rfl ?_);refine gL 9 Try.func10 #[.pointer (some ⟨aB,0,none⟩)] ?_;(with_reducible refine (spec_source_prog.calls k aB aF aO aP aD aQ aR w _ ?s1 ?s2 A3.out).mono ?_);(case s1 => exact Z7 aA.out);(case s2 => exact Z10 aA.out);rintro e w8 ⟨bC,rfl,a9,hi,hb,hk⟩;refine ⟨_,rfl,?_⟩;have aC:=A_ (Kd.N_lower (Nm (ok':=fun k_ => (w.heap.size ≤ k_) ∧ k_ ≠ aB) a9 (fun k_ hk_ => ⟨(Nat.le_trans (bz (Z10 aA.out)) hk_),(IsS52.fresh (Z7 aA.out) k_ hk_)⟩)) (bz (Z10 aA.out)));replace HB:=A_ hb;replace aA:=A_ hi;(try clear hb);(try clear a9);obtain ⟨bG,bH,bD⟩:=Kd.N_slice aC.out;subst bD) | ((with_reducible refine gate_callee (f:=12) rfl ?_);refine gL 15 Try.func12 #[.pointer (some ⟨aB,0,none⟩),.int .i64 (aD.length : Int)] ?_;(with_reducible refine (spec_source_pick.calls k aB aF aQ aR (aD.length : Int) aG aS aT w _ ?s1 ?s2 A4.out).mono ?_);(case s1 => exact Z7 aA.out);(case s2 => exact Z10 aA.out);rintro e bI ⟨rfl,hi,hb,hk⟩;refine ⟨_,rfl,?_⟩;replace aC:=A_ (Nm (Kd.N_keep (Nm (ok:=fun k_ => (((w.heap.size ≤ k_)) ∧ k_ ≠ aB)) (Z21 aC.out) (fun k_ hk_ => (⟨hk_,hk_.2⟩ : _ ∧ k_ ≠ aB))) hk (fun _ h => h.2)) (fun _ h => h.1));replace HB:=A_ hb;replace aA:=A_ hi;(try clear hb)) | ((with_reducible refine gate_callee (f:=12) rfl ?_);refine gL 19 Try.func12 #[.pointer (some ⟨aB,0,none⟩),.int .i64 (aD.length : Int)] ?_;(with_reducible refine (spec_source_pick.calls k aB aF aS aT (aD.length : Int) aH aK aL w _ ?s1 ?s2 A5.out).mono ?_);(case s1 => exact Z7 aA.out);(case s2 => exact Z10 aA.out);rintro e bJ ⟨rfl,hi,hb,hk⟩;refine ⟨_,rfl,?_⟩;replace aC:=A_ (Nm (Kd.N_keep (Nm (ok:=fun k_ => (((w.heap.size ≤ k_)) ∧ k_ ≠ aB)) (Z21 aC.out) (fun k_ hk_ => (⟨hk_,hk_.2⟩ : _ ∧ k_ ≠ aB))) hk (fun _ h => h.2)) (fun _ h => h.1));replace HB:=A_ hb;replace aA:=A_ hi;(try clear hb)) | ((with_reducible refine gate_dst (N:=22) rfl ?_);refine Kd.R_lit (Kd.int .i64) _ 3 ?hg (N:=22) ?hd (xs:=([aG,aH,(-1),(aD.length : Int)] : List Int)) (inner:=[.int .i64 aG,.int .i64 aH,.int .i64 (-1),.int .i64 (aD.length : Int)]) (ok:=fun _ => True) (okp:=fun _ => True) ?hr ?hp (fun _ hk => hk) trivial (Below.refl _ _) (Nat.le_refl _) (by simp) ?_;(case hd => rfl);(case hg => rfl);(case hr => exact Z51);(case hp => exact (Reps.one (show Kd.M (Kd.int .i64) _ _ _ aG [.int .i64 aG] from rfl) (Reps.one (show Kd.M (Kd.int .i64) _ _ _ aH [.int .i64 aH] from rfl) (Reps.one (show Kd.M (Kd.int .i64) _ _ _ (-1) [.int .i64 (-1)] from rfl) (Reps.one (show Kd.M (Kd.int .i64) _ _ _ (aD.length : Int) [.int .i64 (aD.length : Int)] from rfl) (Reps.none _ _))))));intro bE bK aI hb hg_ hnew_;clear hg_ hnew_;(first | rw [← aN.out] at aI | (simp only [Int.reduceToNat] at aI;rw [← aN.out] at aI));replace aC:=A_ (Kd.N_elder' (Z21 aC.out) (Kd.R_base aI) hb);have aE:=A_ (Kd.R_lower (Kd.R_newM (M:=fun k_ => (w.heap.size ≤ k_)) aI (bz (Z10 aA.out)) (fun k_ h_ => h_)) (bz (Z10 aA.out)));replace HB:=A_ (bst (Z10 aA.out) hb);replace aA:=A_ (IsS52.below (Z7 aA.out) hb);clear hb aI;obtain ⟨aV,aW,a0⟩:=Kd.R_slice aE.out;subst a0) | ((with_reducible refine gate_callee (f:=11) rfl ?_);refine gL 23 Try.func11 #[.pointer (some ⟨aB,0,none⟩),.slice aV aM.length aW] ?_;(with_reducible refine (spec_source_one.calls k aB aF aK aL _ _ aM aX aY aZ w _ ?s1 ?s2 ?s3 ?s4 ?s5 A6.out).mono ?_);(case s1 => exact Z7 aA.out);(case s2 => exact Z10 aA.out);(case s3 => exact Z32 aE.out);(case s4 => exact (Kd.R_reads' aE.out).2.1);(case s5 => exact far_slice (IsS52.own_ne aA.out aE.out (by decide)));rintro e bL ⟨rfl,hi,hb,hk⟩;refine ⟨_,rfl,?_⟩;replace aC:=A_ (Nm (Kd.N_keep (Nm (ok:=fun k_ => ((((w.heap.size ≤ k_)) ∧ k_ ≠ aB) ∧ ob k_ aV aM aW)) (Z21 aC.out) (fun k_ hk_ => (⟨hk_,hk_.1.2⟩ : _ ∧ k_ ≠ aB))) hk (fun _ h => h.2)) (fun _ h => h.1));replace aE:=A_ (Rm (Kd.R_keep (IsS52.apart (show IsS52 w _ aB aF aK aL from (Z7 aA.out)) (Z17 aE.out) (by decide)) hk (fun _ h => h.2)) (fun _ h => h.1));replace HB:=A_ hb;replace aA:=A_ hi;(try clear hb)))
 go_ret2
 exact ⟨_,Z12,by (with_reducible repeat (first | apply Kd.N_alloc | apply Kd.N_drewN | apply Kd.N_drew));exact Nm aC.out (fun _ hk => hk.1.1),Z10 aA.out⟩
def impl_within.f (a0 : Int) (a1 : Int) (a2 : Int) : Option (Bool):=if a0 ≥ a1 then (some (decide (a0 ≤ a2))) else (some false)
theorem impl_within.calls (a0 : Int) (a1 : Int) (a2 : Int) (r : Bool) (w : World) (h : impl_within.f a0 a1 a2 = some r) :
  Calls Try.prog 14 #[.int .i64 a0,.int .i64 a1,.int .i64 a2] w fun e w' => e = .returned (.bool r) ∧ Drawn0 w w':=by
 have H:=h;unfold impl_within.f at H;clear h
 by_cases c4 : a0 ≥ a1
 ·rw [if_pos c4] at H
  have aA : decide (a1 ≤ a0) = true:=dt c4;clear c4;obtain rfl:=Option.some.inj H
  go_enter Try.func14,Try.ntmps14
  go_wp2
  go_ret
  exact ⟨Z22,Z34⟩
 ·rw [if_neg c4] at H
  have aA : decide (a1 ≤ a0) = false:=df c4;clear c4;obtain rfl:=Option.some.inj H
  go_enter Try.func14,Try.ntmps14
  go_wp2
  go_ret
  exact ⟨Z22,Z34⟩
def impl_word.l0 : Nat → ByteArray → Int → Option (Bool)
 | 0,_,_ => none
 | k + 1,x0,x3 => if x3 < (x0.size : Int) then (if 0 ≤ x3 then (if (bt x0 x3) ≥ 97 then (if (bt x0 x3) ≤ 122 then (impl_word.l0 k x0 (wrap64 (x3 + 1))) else (if (bt x0 x3) ≥ 48 then (if (bt x0 x3) ≤ 57 then (impl_word.l0 k x0 (wrap64 (x3 + 1))) else (if ((bt x0 x3) = 32) then (impl_word.l0 k x0 (wrap64 (x3 + 1))) else (some false))) else (if ((bt x0 x3) = 32) then (impl_word.l0 k x0 (wrap64 (x3 + 1))) else (some false)))) else (if (bt x0 x3) ≥ 48 then (if (bt x0 x3) ≤ 57 then (impl_word.l0 k x0 (wrap64 (x3 + 1))) else (if ((bt x0 x3) = 32) then (impl_word.l0 k x0 (wrap64 (x3 + 1))) else (some false))) else (if ((bt x0 x3) = 32) then (impl_word.l0 k x0 (wrap64 (x3 + 1))) else (some false)))) else (none)) else (some (decide ((x0.size : Int) ≤ 12)))
def impl_word.f (k : Nat) (a0 : ByteArray) : Option (Bool):=impl_word.l0 k a0 0
theorem impl_word.calls (k : Nat) (a0 : ByteArray) (r : Bool) (w : World) (h : impl_word.f k a0 = some r) :
  Calls Try.prog 54 #[.string a0] w fun e w' => e = .returned (.bool r) ∧ Drawn0 w w':=by
 have H:=h;unfold impl_word.f at H;clear h;have H':=A_ H;clear H
 go_enter Try.func54,Try.ntmps54
 go_wp2
 go_loopg [3] k (fun kq v3 w' => ∃ (aA : Int),v3 = .int .i64 aA ∧ Aside0 (impl_word.l0 kq a0 aA = some r) ∧ Aside0 (kq ≤ k) ∧ Drawn0 w w')
 case atStart => exact ⟨(0),Z22,H',⟨Nat.le_refl _⟩,Z34⟩
 case round =>
  clear H';obtain ⟨aA,rfl,HA,aB,⟨m1,rfl⟩⟩:=hrel
  cases gk with
  | zero => exact absurd HA.out (by simp [impl_word.l0])
  | succ k1 =>
   have H:=HA.out;clear HA;simp only [impl_word.l0] at H
   by_cases c2 : aA < (a0.size : Int)
   ·rw [if_pos c2] at H
    have aP:=dt c2;clear c2
    by_cases c3 : 0 ≤ aA
    ·rw [if_pos c3] at H
     have aW:=dt c3;clear c3
     by_cases c5 : (bt a0 aA) ≥ 97
     ·rw [if_pos c5] at H
      have aQ : decide (97 ≤ (bt a0 aA)) = true:=dt c5;clear c5
      by_cases c6 : (bt a0 aA) ≤ 122
      ·rw [if_pos c6] at H
       have aR:=dt c6;clear c6;have H':=A_ H;clear H;have p4 : 0 ≤ (aA : Int):=odt;have q4 : aA < (a0.size : Int):=odt;have aC:=bt_at a0 aA;replace p4:=eq_true p4;replace q4:=eq_true q4
       go_wp2
       go_roundg k1
       case measure => have:=aB.out;omega
       case rel => exact ⟨(wrap64 (aA + 1)),Z22,H',⟨by have:=aB.out;omega⟩,Z34⟩
      ·rw [if_neg c6] at H
       have aR:=df c6;clear c6
       by_cases c7 : (bt a0 aA) ≥ 48
       ·rw [if_pos c7] at H
        have aS : decide (48 ≤ (bt a0 aA)) = true:=dt c7;clear c7
        by_cases c8 : (bt a0 aA) ≤ 57
        ·rw [if_pos c8] at H
         have aT:=dt c8;clear c8;have H':=A_ H;clear H;have p4 : 0 ≤ (aA : Int):=odt;have q4 : aA < (a0.size : Int):=odt;have aC:=bt_at a0 aA;replace p4:=eq_true p4;replace q4:=eq_true q4
         go_wp2
         go_roundg k1
         case measure => have:=aB.out;omega
         case rel => exact ⟨(wrap64 (aA + 1)),Z22,H',⟨by have:=aB.out;omega⟩,Z34⟩
        ·rw [if_neg c8] at H
         have aT:=df c8;clear c8
         by_cases c9 : ((bt a0 aA) = 32)
         ·rw [if_pos c9] at H
          have aU : ((bt a0 aA) == 32) = true:=beq_iff_eq.mpr c9;have aV : ((bt a0 aA) != 32) = false:=bne_eq_false_iff_eq.mpr c9;clear c9;have H':=A_ H;clear H;have p4 : 0 ≤ (aA : Int):=odt;have q4 : aA < (a0.size : Int):=odt;have aC:=bt_at a0 aA;replace p4:=eq_true p4;replace q4:=eq_true q4
          go_wp2
          go_roundg k1
          case measure => have:=aB.out;omega
          case rel => exact ⟨(wrap64 (aA + 1)),Z22,H',⟨by have:=aB.out;omega⟩,Z34⟩
         ·rw [if_neg c9] at H
          have aU : ((bt a0 aA) == 32) = false:=beq_eq_false_iff_ne.mpr c9;have aV : ((bt a0 aA) != 32) = true:=bne_iff_ne.mpr c9;obtain rfl:=Option.some.inj H;have p4 : 0 ≤ (aA : Int):=odt;have q4 : aA < (a0.size : Int):=odt;have aC:=bt_at a0 aA;replace p4:=eq_true p4;replace q4:=eq_true q4
          go_wp2
          go_ret
          exact ⟨Z22,Z34⟩
       ·rw [if_neg c7] at H
        have aS : decide (48 ≤ (bt a0 aA)) = false:=df c7;clear c7
        by_cases c10 : ((bt a0 aA) = 32)
        ·rw [if_pos c10] at H
         have aH : ((bt a0 aA) == 32) = true:=beq_iff_eq.mpr c10;have aI : ((bt a0 aA) != 32) = false:=bne_eq_false_iff_eq.mpr c10;clear c10;have H':=A_ H;clear H;have p4 : 0 ≤ (aA : Int):=odt;have q4 : aA < (a0.size : Int):=odt;have aC:=bt_at a0 aA;replace p4:=eq_true p4;replace q4:=eq_true q4
         go_wp2
         go_roundg k1
         case measure => have:=aB.out;omega
         case rel => exact ⟨(wrap64 (aA + 1)),Z22,H',⟨by have:=aB.out;omega⟩,Z34⟩
        ·rw [if_neg c10] at H
         have aH : ((bt a0 aA) == 32) = false:=beq_eq_false_iff_ne.mpr c10;have aI : ((bt a0 aA) != 32) = true:=bne_iff_ne.mpr c10;obtain rfl:=Option.some.inj H;have p4 : 0 ≤ (aA : Int):=odt;have q4 : aA < (a0.size : Int):=odt;have aC:=bt_at a0 aA;replace p4:=eq_true p4;replace q4:=eq_true q4
         go_wp2
         go_ret
         exact ⟨Z22,Z34⟩
     ·rw [if_neg c5] at H
      have aQ : decide (97 ≤ (bt a0 aA)) = false:=df c5;clear c5
      by_cases aF : (bt a0 aA) ≥ 48
      ·rw [if_pos aF] at H
       have aJ : decide (48 ≤ (bt a0 aA)) = true:=dt aF;clear aF
       by_cases aG : (bt a0 aA) ≤ 57
       ·rw [if_pos aG] at H
        have aK:=dt aG;clear aG;have H':=A_ H;clear H;have p4 : 0 ≤ (aA : Int):=odt;have q4 : aA < (a0.size : Int):=odt;have aC:=bt_at a0 aA;replace p4:=eq_true p4;replace q4:=eq_true q4
        go_wp2
        go_roundg k1
        case measure => have:=aB.out;omega
        case rel => exact ⟨(wrap64 (aA + 1)),Z22,H',⟨by have:=aB.out;omega⟩,Z34⟩
       ·rw [if_neg aG] at H
        have aK:=df aG;clear aG
        by_cases aD : ((bt a0 aA) = 32)
        ·rw [if_pos aD] at H
         have aL : ((bt a0 aA) == 32) = true:=beq_iff_eq.mpr aD;have aM : ((bt a0 aA) != 32) = false:=bne_eq_false_iff_eq.mpr aD;clear aD;have H':=A_ H;clear H;have p4 : 0 ≤ (aA : Int):=odt;have q4 : aA < (a0.size : Int):=odt;have aC:=bt_at a0 aA;replace p4:=eq_true p4;replace q4:=eq_true q4
         go_wp2
         go_roundg k1
         case measure => have:=aB.out;omega
         case rel => exact ⟨(wrap64 (aA + 1)),Z22,H',⟨by have:=aB.out;omega⟩,Z34⟩
        ·rw [if_neg aD] at H
         have aL : ((bt a0 aA) == 32) = false:=beq_eq_false_iff_ne.mpr aD;have aM : ((bt a0 aA) != 32) = true:=bne_iff_ne.mpr aD;obtain rfl:=Option.some.inj H;have p4 : 0 ≤ (aA : Int):=odt;have q4 : aA < (a0.size : Int):=odt;have aC:=bt_at a0 aA;replace p4:=eq_true p4;replace q4:=eq_true q4
         go_wp2
         go_ret
         exact ⟨Z22,Z34⟩
      ·rw [if_neg aF] at H
       have aJ : decide (48 ≤ (bt a0 aA)) = false:=df aF;clear aF
       by_cases aE : ((bt a0 aA) = 32)
       ·rw [if_pos aE] at H
        have aN : ((bt a0 aA) == 32) = true:=beq_iff_eq.mpr aE;have aO : ((bt a0 aA) != 32) = false:=bne_eq_false_iff_eq.mpr aE;clear aE;have H':=A_ H;clear H;have p4 : 0 ≤ (aA : Int):=odt;have q4 : aA < (a0.size : Int):=odt;have aC:=bt_at a0 aA;replace p4:=eq_true p4;replace q4:=eq_true q4
        go_wp2
        go_roundg k1
        case measure => have:=aB.out;omega
        case rel => exact ⟨(wrap64 (aA + 1)),Z22,H',⟨by have:=aB.out;omega⟩,Z34⟩
       ·rw [if_neg aE] at H
        have aN : ((bt a0 aA) == 32) = false:=beq_eq_false_iff_ne.mpr aE;have aO : ((bt a0 aA) != 32) = true:=bne_iff_ne.mpr aE;obtain rfl:=Option.some.inj H;have p4 : 0 ≤ (aA : Int):=odt;have q4 : aA < (a0.size : Int):=odt;have aC:=bt_at a0 aA;replace p4:=eq_true p4;replace q4:=eq_true q4
        go_wp2
        go_ret
        exact ⟨Z22,Z34⟩
    ·rw [if_neg c3] at H
     exact absurd H (by simp)
   ·rw [if_neg c2] at H
    have aP:=df c2;clear c2;obtain rfl:=Option.some.inj H
    go_wp2
    go_ret
    exact ⟨Z22,Z34⟩
def impl_ValOk.f (k : Nat) (aA : Int) (aB : Int) (aC : ByteArray) : Option (Bool):=if aA = 0 then (if aB = 0 then (some (aC.toList == ([] : List UInt8))) else (some false)) else (if aA = 1 then ((impl_within.f aB (-1000) 1000).bind fun aD => (if aD = true then (some (aC.toList == ([] : List UInt8))) else (some false))) else (if aA = 2 then (if aB = 0 then ((impl_word.f k aC).bind fun aE => (some aE)) else (some false)) else (some false)))
theorem impl_ValOk.calls (k : Nat) (aA : Int) (aB : Int) (aF : ByteArray) (r : Bool) (w : World) (h : impl_ValOk.f k aA aB aF = some r) :
  Calls Try.prog 46 #[.agg #[.int .i64 aA,.int .i64 aB,.string aF]] w fun e w' => e = .returned (.bool r) ∧ Below w.heap.size w w':=by
 have b5:=Try.underlying67;have HB:=A_ (Below.refl w.heap.size w);have H:=h;unfold impl_ValOk.f at H;clear h
 by_cases c2 : aA = 0
 ·rw [if_pos c2] at H
  have bJ:=e_t c2;have bK:=n_f c2;clear c2
  by_cases c3 : aB = 0
  ·rw [if_pos c3] at H
   have bL:=e_t c3;have bM:=n_f c3;clear c3;obtain rfl:=Option.some.inj H
   go_enter Try.func46,Try.ntmps46
   go_wp2_with (first | ((with_reducible refine gate_dst (N:=1) rfl ?_);refine be (cs:=#[.int .i64 aA,.int .i64 aB,.string aF]) (t:=67) ?_;intro aG hg w4 hbox hb;have aC:=A_ hbox;have aD:=A_ (gl hg (bz Z2));have aE:=aD;replace HB:=A_ (bst Z2 hb);clear hb hbox hg;obtain ⟨bN,bO,bP,bQ,bR,bT⟩:=C3 aC.out))
   go_ret
   exact ⟨Z12,Z3 aE.out⟩
  ·rw [if_neg c3] at H
   have bL:=e_f c3;have bM:=n_t c3;obtain rfl:=Option.some.inj H
   go_enter Try.func46,Try.ntmps46
   go_wp2_with (first | ((with_reducible refine gate_dst (N:=1) rfl ?_);refine be (cs:=#[.int .i64 aA,.int .i64 aB,.string aF]) (t:=67) ?_;intro aG hg w6 hbox hb;have aC:=A_ hbox;have aD:=A_ (gl hg (bz Z2));have aE:=aD;replace HB:=A_ (bst Z2 hb);clear hb hbox hg;obtain ⟨bU,bV,bW,bX,bY,bZ⟩:=C3 aC.out))
   go_ret
   exact ⟨Z12,Z3 aE.out⟩
 ·rw [if_neg c2] at H
  have bJ:=e_f c2;have bK:=n_t c2
  by_cases c8 : aA = 1
  ·rw [if_pos c8] at H
   have b0:=e_t c8;have b1:=n_f c8;clear c8;replace H:=bS H;obtain ⟨b2,b4,H⟩:=H
   try dsimp only at H
   have A9:=A_ b4;clear b4
   by_cases c10 : b2 = true
   ·subst c10
    rw [if_pos rfl] at H;obtain rfl:=Option.some.inj H
    go_enter Try.func46,Try.ntmps46
    go_wp2_with (first | ((with_reducible refine gate_dst (N:=1) rfl ?_);refine be (cs:=#[.int .i64 aA,.int .i64 aB,.string aF]) (t:=67) ?_;intro aG hg b7 hbox hb;have aC:=A_ hbox;have aD:=A_ (gl hg (bz Z2));have aE:=aD;replace HB:=A_ (bst Z2 hb);clear hb hbox hg;obtain ⟨aO,aP,aQ,aR,aS,aT⟩:=C3 aC.out) | ((with_reducible refine gate_callee (f:=14) rfl ?_);refine gL 19 Try.func14 #[.int .i64 aB,.int .i64 (-1000),.int .i64 1000] ?_;(with_reducible refine (impl_within.calls aB (-1000) 1000 true _ A9.out).mono ?_);rintro e w' ⟨rfl,⟨nd,rfl⟩⟩;refine ⟨_,rfl,?_⟩))
    go_ret
    exact ⟨Z12,Z3 aE.out⟩
   ·replace c10:=Bool.eq_false_iff.mpr c10
    subst c10;rw [if_neg (show ¬ (false = true) by decide)] at H;obtain rfl:=Option.some.inj H
    go_enter Try.func46,Try.ntmps46
    go_wp2_with (first | ((with_reducible refine gate_dst (N:=1) rfl ?_);refine be (cs:=#[.int .i64 aA,.int .i64 aB,.string aF]) (t:=67) ?_;intro aG hg b8 hbox hb;have aC:=A_ hbox;have aD:=A_ (gl hg (bz Z2));have aE:=aD;replace HB:=A_ (bst Z2 hb);clear hb hbox hg;obtain ⟨aU,aV,aW,aX,aY,aZ⟩:=C3 aC.out) | ((with_reducible refine gate_callee (f:=14) rfl ?_);refine gL 19 Try.func14 #[.int .i64 aB,.int .i64 (-1000),.int .i64 1000] ?_;(with_reducible refine (impl_within.calls aB (-1000) 1000 false _ A9.out).mono ?_);rintro e w' ⟨rfl,⟨nd,rfl⟩⟩;refine ⟨_,rfl,?_⟩))
    go_ret
    exact ⟨Z12,Z3 aE.out⟩
  ·rw [if_neg c8] at H
   have b0:=e_f c8;have b1:=n_t c8
   by_cases aH : aA = 2
   ·rw [if_pos aH] at H
    have aJ:=e_t aH;have aK:=n_f aH;clear aH
    by_cases aI : aB = 0
    ·rw [if_pos aI] at H
     have aL:=e_t aI;have aM:=n_f aI;clear aI;replace H:=bS H;obtain ⟨b3,aN,H⟩:=H
     try dsimp only at H
     have b6:=A_ aN;clear aN;obtain rfl:=Option.some.inj H
     go_enter Try.func46,Try.ntmps46
     go_wp2_with (first | ((with_reducible refine gate_dst (N:=1) rfl ?_);refine be (cs:=#[.int .i64 aA,.int .i64 aB,.string aF]) (t:=67) ?_;intro aG hg b9 hbox hb;have aC:=A_ hbox;have aD:=A_ (gl hg (bz Z2));have aE:=aD;replace HB:=A_ (bst Z2 hb);clear hb hbox hg;obtain ⟨a0,a2,a3,a4,a5,a6⟩:=C3 aC.out) | (go_at_call 54;(with_reducible refine (impl_word.calls k aF b3 _ b6.out).mono ?_);rintro e w' ⟨rfl,⟨nd,rfl⟩⟩))
     go_ret
     exact ⟨Z12,Z3 aE.out⟩
    ·rw [if_neg aI] at H
     have aL:=e_f aI;have aM:=n_t aI;obtain rfl:=Option.some.inj H
     go_enter Try.func46,Try.ntmps46
     go_wp2_with (first | ((with_reducible refine gate_dst (N:=1) rfl ?_);refine be (cs:=#[.int .i64 aA,.int .i64 aB,.string aF]) (t:=67) ?_;intro aG hg cA hbox hb;have aC:=A_ hbox;have aD:=A_ (gl hg (bz Z2));have aE:=aD;replace HB:=A_ (bst Z2 hb);clear hb hbox hg;obtain ⟨a7,a8,a9,bA,bB,bC⟩:=C3 aC.out))
     go_ret
     exact ⟨Z12,Z3 aE.out⟩
   ·rw [if_neg aH] at H
    have aJ:=e_f aH;have aK:=n_t aH;obtain rfl:=Option.some.inj H
    go_enter Try.func46,Try.ntmps46
    go_wp2_with (first | ((with_reducible refine gate_dst (N:=1) rfl ?_);refine be (cs:=#[.int .i64 aA,.int .i64 aB,.string aF]) (t:=67) ?_;intro aG hg cB hbox hb;have aC:=A_ hbox;have aD:=A_ (gl hg (bz Z2));have aE:=aD;replace HB:=A_ (bst Z2 hb);clear hb hbox hg;obtain ⟨bD,bE,bF,bG,bH,bI⟩:=C3 aC.out))
    go_ret
    exact ⟨Z12,Z3 aE.out⟩
def impl_valsOk.l0 : Nat → List (S67) → Int → Int → Option (Bool)
 | 0,_,_,_ => none
 | k + 1,x5,x6,x7 => if x7 < x6 then (if 0 ≤ x7 then (if x7 < (x5.length : Int) then ((impl_ValOk.f k ((rd_T67 x5 x7).f0) ((rd_T67 x5 x7).f1) ((rd_T67 x5 x7).f2)).bind fun aA => (if aA = true then (impl_valsOk.l0 k x5 x6 (wrap64 (x7 + 1))) else (some false))) else (none)) else (none)) else (some true)
def impl_valsOk.f (k : Nat) (l0 : List (S67)) : Option (Bool):=impl_valsOk.l0 k l0 (l0.length : Int) 0
theorem impl_valsOk.calls (k : Nat) (A0 : Option Addr) (c0 : Nat) (l0 : List (S67)) (r : Bool) (w : World) (a0 : Kd.C k67 w A0 l0.length l0) (hc0 : l0.length ≤ c0) (h : impl_valsOk.f k l0 = some r) :
  Calls Try.prog 36 #[.slice A0 l0.length c0] w fun e w' => e = .returned (.bool r) ∧ Below w.heap.size w w':=by
 have a5:=Try.underlying67;have a2:=A_ a0;have a8:=A_ hc0;clear a0 hc0;have HB:=A_ (Below.refl w.heap.size w);have H:=h;unfold impl_valsOk.f at H;clear h;have H':=A_ H;clear H
 go_enter Try.func36,Try.ntmps36
 go_wp2
 go_loopg [7] k (fun kq v7 w' => ∃ (aA : Int),v7 = .int .i64 aA ∧ Aside0 (impl_valsOk.l0 kq l0 (l0.length : Int) aA = some r) ∧ Aside0 (kq ≤ k) ∧ Aside0 (Below w.heap.size w w'))
 case atStart => exact ⟨(0),Z22,H',⟨Nat.le_refl _⟩,⟨Z2⟩⟩
 case round =>
  clear H';obtain ⟨aA,rfl,HA,a3,HB⟩:=hrel
  cases gk with
  | zero => exact absurd HA.out (by simp [impl_valsOk.l0])
  | succ k1 =>
   have H:=HA.out;clear HA;simp only [impl_valsOk.l0] at H
   by_cases c2 : aA < (l0.length : Int)
   ·rw [if_pos c2] at H
    have aS:=dt c2;clear c2
    by_cases c3 : 0 ≤ aA
    ·rw [if_pos c3] at H
     have a6:=dt c3;clear c3
     by_cases c4 : aA < (l0.length : Int)
     ·rw [if_pos c4] at H
      have a7:=dt c4;clear c4;replace H:=bS H;obtain ⟨aT,a4,H⟩:=H
      try dsimp only at H
      have A5:=A_ a4;clear a4
      by_cases c6 : aT = true
      ·subst c6
       rw [if_pos rfl] at H;have H':=A_ H;clear H;have aG : 0 ≤ (aA : Int):=odt;have aH : aA < (l0.length : Int):=odt;obtain ⟨aL,aK,aB,aC,aD⟩:=at_T67 a2.out aA aG aH;cases aK;replace aB:=ZC HB.out aB;replace aC:=ZC HB.out aC;replace aD:=ZC HB.out aD;replace aG:=eq_true aG;replace aH:=eq_true aH
       go_wp2_with (first | ((with_reducible refine gate_dst (N:=4) rfl ?_);refine be (cs:=#[.int .i64 0,.int .i64 0,.string (⟨#[]⟩ : ByteArray)]) (t:=67) ?_;intro aI hg w7 hbox hb;have aE:=A_ hbox;have aJ:=A_ (gl hg (bz Z2));have aF:=aJ;replace HB:=A_ (bst Z2 hb);clear hb hbox hg;obtain ⟨aU,aV,aW,aX,aY,aZ⟩:=C3 aE.out) | ((with_reducible refine gate_callee (f:=46) rfl ?_);refine gL 12 Try.func46 #[.agg #[.int .i64 ((rd_T67 l0 aA).f0),.int .i64 ((rd_T67 l0 aA).f1),.string ((rd_T67 l0 aA).f2)]] ?_;(with_reducible refine (impl_ValOk.calls k1 ((rd_T67 l0 aA).f0) ((rd_T67 l0 aA).f1) ((rd_T67 l0 aA).f2) true _ A5.out).mono ?_);rintro e w9 ⟨rfl,hb⟩;refine ⟨_,rfl,?_⟩;replace aE:=A_ (bb (g:=aI) (o:=.cells #[.int .i64 ((rd_T67 l0 aA).f0),.int .i64 ((rd_T67 l0 aA).f1),.string ((rd_T67 l0 aA).f2)] 67 (0,0)) (bp0 aE.out) hb);replace HB:=A_ (bst (Z3 aF.out) hb);(try clear hb)))
       go_roundg k1
       case measure => have:=a3.out;omega
       case rel => exact ⟨(wrap64 (aA + 1)),Z22,H',⟨by have:=a3.out;omega⟩,⟨Z3 aF.out⟩⟩
      ·replace c6:=Bool.eq_false_iff.mpr c6
       subst c6;rw [if_neg (show ¬ (false = true) by decide)] at H;obtain rfl:=Option.some.inj H;have aG : 0 ≤ (aA : Int):=odt;have aH : aA < (l0.length : Int):=odt;obtain ⟨aL,aK,aB,aC,aD⟩:=at_T67 a2.out aA aG aH;cases aK;replace aB:=ZC HB.out aB;replace aC:=ZC HB.out aC;replace aD:=ZC HB.out aD;replace aG:=eq_true aG;replace aH:=eq_true aH
       go_wp2_with (first | ((with_reducible refine gate_dst (N:=4) rfl ?_);refine be (cs:=#[.int .i64 0,.int .i64 0,.string (⟨#[]⟩ : ByteArray)]) (t:=67) ?_;intro aI hg a9 hbox hb;have aE:=A_ hbox;have aJ:=A_ (gl hg (bz Z2));have aF:=aJ;replace HB:=A_ (bst Z2 hb);clear hb hbox hg;obtain ⟨aM,aN,aO,aP,aQ,aR⟩:=C3 aE.out) | ((with_reducible refine gate_callee (f:=46) rfl ?_);refine gL 12 Try.func46 #[.agg #[.int .i64 ((rd_T67 l0 aA).f0),.int .i64 ((rd_T67 l0 aA).f1),.string ((rd_T67 l0 aA).f2)]] ?_;(with_reducible refine (impl_ValOk.calls k1 ((rd_T67 l0 aA).f0) ((rd_T67 l0 aA).f1) ((rd_T67 l0 aA).f2) false _ A5.out).mono ?_);rintro e bA ⟨rfl,hb⟩;refine ⟨_,rfl,?_⟩;replace aE:=A_ (bb (g:=aI) (o:=.cells #[.int .i64 ((rd_T67 l0 aA).f0),.int .i64 ((rd_T67 l0 aA).f1),.string ((rd_T67 l0 aA).f2)] 67 (0,0)) (bp0 aE.out) hb);replace HB:=A_ (bst (Z3 aF.out) hb);(try clear hb)))
       go_ret
       exact ⟨Z12,Z3 aF.out⟩
     ·rw [if_neg c4] at H
      exact absurd H (by simp)
    ·rw [if_neg c3] at H
     exact absurd H (by simp)
   ·rw [if_neg c2] at H
    have aS:=df c2;clear c2;obtain rfl:=Option.some.inj H
    go_wp2
    go_ret
    exact ⟨Z12,Z2⟩
end Go.Proofs.Ytmgdjmeoljepgaa.PFnProgBelow
