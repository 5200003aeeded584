/- Walks (lines of the print; no condition). -/
import Derived.Test.YtmgdjmeoljepgaaZFnProgBelowQFnProgBelowx12
namespace Go.Proofs.Ytmgdjmeoljepgaa.PFnProgBelow
open Go.RowKit Go.Proofs.YtmgdjmeoljepgaaW.PrintWords Go.Proofs.YtmgdjmeoljepgaaW.PrintLast Go.Proofs.YtmgdjmeoljepgaaW.PrintMore
attribute [local go_sem] max2_int min2_int max_two min_two max_three min_three max_four min_four
set_option linter.unusedVariables false
set_option linter.unusedSimpArgs false
set_option maxHeartbeats 8000000
set_option maxRecDepth 100000
mutual
def spec_source_form.j0 : Nat → Int → Int → Int → Int → Bool → List Int → Int → Int → Option ((List (S70)) × Int × Int)
 | 0,_,_,_,_,_,_,_,_ => none
 | k + 1,x1,x2,x3,x4,aS,aA,aC,aD => if aS = true then ((spec_source_leaf.f k aA aC aD x1 x2 x3).bind fun aB => (some ((([(⟨aB.1,aB.2.1,(⟨aB.2.2.1,aB.2.2.2.1,aB.2.2.2.2.1⟩ : S67)⟩ : S70)] : List (S70))),aB.2.2.2.2.2.1,aB.2.2.2.2.2.2))) else (if x4 > 3 then ((spec_source_pick.f k aA aC aD 4).bind fun aJ => (spec_source_form.j1 k x1 x2 x3 x4 (aJ.1 == 0) aA aJ.2.1 aJ.2.2)) else (spec_source_form.j1 k x1 x2 x3 x4 false aA aC aD))
def spec_source_form.j1 : Nat → Int → Int → Int → Int → Bool → List Int → Int → Int → Option ((List (S70)) × Int × Int)
 | 0,_,_,_,_,_,_,_,_ => none
 | k + 1,x1,x2,x3,x4,aT,aA,aC,aD => if aT = true then ((spec_source_form.f k aA aC aD x1 x2 x3 1).bind fun aE => ((spec_source_form.f k aA aE.2.1 aE.2.2 x1 x2 x3 1).bind fun aF => ((spec_source_form.f k aA aF.2.1 aF.2.2 x1 x2 x3 (wrap64 (x4 - 3))).bind fun aG => (if aE.1.length + aF.1.length < 2932031007402 then ((some (aE.1 ++ aF.1 : List (S70))).bind fun aN => (if aN.length + aG.1.length < 2932031007402 then ((some (aN ++ aG.1 : List (S70))).bind fun aO => (if aO.length < 2932031007402 then (some ((aO ++ [(⟨6,0,(⟨0,0,(⟨#[]⟩ : ByteArray)⟩ : S67)⟩ : S70)]),aG.2.1,aG.2.2)) else (none))) else (none))) else (none))))) else ((spec_source_form.f k aA aC aD x1 x2 x3 1).bind fun aH => ((spec_source_form.f k aA aH.2.1 aH.2.2 x1 x2 x3 (wrap64 (x4 - 2))).bind fun aI => (if aH.1.length + aI.1.length < 2932031007402 then ((some (aH.1 ++ aI.1 : List (S70))).bind fun aP => ((spec_source_pick.f k aA aI.2.1 aI.2.2 7).bind fun aK => (if aP.length < 2932031007402 then (some ((aP ++ [(⟨5,aK.1,(⟨0,0,(⟨#[]⟩ : ByteArray)⟩ : S67)⟩ : S70)]),aK.2.1,aK.2.2)) else (none)))) else (none))))
def spec_source_form.f : Nat → List Int → Int → Int → Int → Int → Int → Int → Option ((List (S70)) × Int × Int)
 | 0,_,_,_,_,_,_,_ => none
 | k + 1,aM,aQ,aR,a1,a2,a3,a4 => if a4 < 3 then (spec_source_form.j0 k a1 a2 a3 a4 true aM aQ aR) else ((spec_source_pick.f k aM aQ aR 2).bind fun aL => (spec_source_form.j0 k a1 a2 a3 a4 (aL.1 == 0) aM aL.2.1 aL.2.2))
end
theorem spec_source_form.mono_l : ∀ k,(∀ y0 y1 y2 y3 y4 y5 y6,LeO (spec_source_form.f k y0 y1 y2 y3 y4 y5 y6) (spec_source_form.f (k + 1) y0 y1 y2 y3 y4 y5 y6)) ∧ (∀ y0 y1 y2 y3 y4 y5 y6 y7,LeO (spec_source_form.j0 k y0 y1 y2 y3 y4 y5 y6 y7) (spec_source_form.j0 (k + 1) y0 y1 y2 y3 y4 y5 y6 y7)) ∧ (∀ y0 y1 y2 y3 y4 y5 y6 y7,LeO (spec_source_form.j1 k y0 y1 y2 y3 y4 y5 y6 y7) (spec_source_form.j1 (k + 1) y0 y1 y2 y3 y4 y5 y6 y7))
 | 0 => ⟨fun _ _ _ _ _ _ _ r h => by simp [spec_source_form.f] at h,fun _ _ _ _ _ _ _ _ r h => by simp [spec_source_form.j0] at h,fun _ _ _ _ _ _ _ _ r h => by simp [spec_source_form.j1] at h⟩
 | k + 1 => by
  obtain ⟨aA,aB,aC⟩:=spec_source_form.mono_l k
  refine ⟨?_,?_,?_⟩
  ·intro y0 y1 y2 y3 y4 y5 y6
   unfold spec_source_form.f
   repeat' first
   | (with_reducible exact aA _ _ _ _ _ _ _)
   | (with_reducible exact aB _ _ _ _ _ _ _ _)
   | (with_reducible exact aC _ _ _ _ _ _ _ _)
   | (with_reducible exact spec_source_leaf.mono _ _ _ _ _ _ _)
   | (with_reducible exact spec_source_pick.mono _ _ _ _ _)
   | (with_reducible exact LeO.refl _)
   | (with_reducible exact LeO.none _)
   | (with_reducible refine LeO.ite ?_ ?_)
   | (with_reducible refine LeO.bind ?_ (fun _ => ?_))
   | exact aA _ _ _ _ _ _ _
   | exact aB _ _ _ _ _ _ _ _
   | exact aC _ _ _ _ _ _ _ _
   | exact spec_source_leaf.mono _ _ _ _ _ _ _
   | exact spec_source_pick.mono _ _ _ _ _
   | exact LeO.none _
   | refine LeO.ite ?_ ?_
   | refine LeO.bind ?_ (fun _ => ?_)
  ·intro y0 y1 y2 y3 y4 y5 y6 y7
   unfold spec_source_form.j0
   repeat' first
   | (with_reducible exact aA _ _ _ _ _ _ _)
   | (with_reducible exact aB _ _ _ _ _ _ _ _)
   | (with_reducible exact aC _ _ _ _ _ _ _ _)
   | (with_reducible exact spec_source_leaf.mono _ _ _ _ _ _ _)
   | (with_reducible exact spec_source_pick.mono _ _ _ _ _)
   | (with_reducible exact LeO.refl _)
   | (with_reducible exact LeO.none _)
   | (with_reducible refine LeO.ite ?_ ?_)
   | (with_reducible refine LeO.bind ?_ (fun _ => ?_))
   | exact aA _ _ _ _ _ _ _
   | exact aB _ _ _ _ _ _ _ _
   | exact aC _ _ _ _ _ _ _ _
   | exact spec_source_leaf.mono _ _ _ _ _ _ _
   | exact spec_source_pick.mono _ _ _ _ _
   | exact LeO.none _
   | refine LeO.ite ?_ ?_
   | refine LeO.bind ?_ (fun _ => ?_)
  ·intro y0 y1 y2 y3 y4 y5 y6 y7
   unfold spec_source_form.j1
   repeat' first
   | (with_reducible exact aA _ _ _ _ _ _ _)
   | (with_reducible exact aB _ _ _ _ _ _ _ _)
   | (with_reducible exact aC _ _ _ _ _ _ _ _)
   | (with_reducible exact spec_source_leaf.mono _ _ _ _ _ _ _)
   | (with_reducible exact spec_source_pick.mono _ _ _ _ _)
   | (with_reducible exact LeO.refl _)
   | (with_reducible exact LeO.none _)
   | (with_reducible refine LeO.ite ?_ ?_)
   | (with_reducible refine LeO.bind ?_ (fun _ => ?_))
   | exact aA _ _ _ _ _ _ _
   | exact aB _ _ _ _ _ _ _ _
   | exact aC _ _ _ _ _ _ _ _
   | exact spec_source_leaf.mono _ _ _ _ _ _ _
   | exact spec_source_pick.mono _ _ _ _ _
   | exact LeO.none _
   | refine LeO.ite ?_ ?_
   | refine LeO.bind ?_ (fun _ => ?_)
theorem spec_source_form.mono : ∀ a0 a1 a2 a3 a4 a5 a6 k,LeO (spec_source_form.f k a0 a1 a2 a3 a4 a5 a6) (spec_source_form.f (k + 1) a0 a1 a2 a3 a4 a5 a6):=by
 intro a0 a1 a2 a3 a4 a5 a6 k
 obtain ⟨aA,aB,aC⟩:=spec_source_form.mono_l k
 exact aA a0 a1 a2 a3 a4 a5 a6
theorem spec_source_form.calls (k : Nat) : ∀ (g : Nat) (aA : List Int) (bH : Int) (bI : Int) (a1 : Int) (a2 : Int) (a3 : Int) (a4 : Int) (r1 : List (S70)) (r2 : Int) (r3 : Int) (w0 w : World) (hI : IsS52 w0 w g aA bH bI) (hB : Below w0.heap.size w0 w) (h : spec_source_form.f k aA bH bI a1 a2 a3 a4 = some (r1,r2,r3)),
  Calls Try.prog 21 #[.pointer (some ⟨g,0,none⟩),.int .i64 a1,.int .i64 a2,.int .i64 a3,.int .i64 a4] w fun e w' => ∃ dZ : Value,e = .returned (dZ) ∧ Kd.R k70 70 w' w.heap.size (fun _ => True) dZ r1 ∧ IsS52 w0 w' g aA r2 r3 ∧ Below w0.heap.size w0 w' ∧ KeepBut w w' g none:=by
 induction k using Nat.strongRecOn with
 | _ k ih =>
 intro g aA bH bI a1 a2 a3 a4 r1 r2 r3 w0 w hI hB h
 cases k with
 | zero => exact absurd h (by simp [spec_source_form.f])
 | succ k =>
 simp only [spec_source_form.f] at h;have d1:=Try.underlying70;have HI0:=A_ hI;have HK:=A_ (KeepBut.refl w g none);have HL:=A_ hB.size;clear hI;have eJ:=A_ hB.size;have HB:=A_ hB;clear hB;have H:=h;unfold spec_source_form.f at H;clear h;have dK:=A_ H;clear H
 go_enter Try.func21,Try.ntmps21
 go_upto_region 1 with (fail)
 go_cut [22] (fun d2 wc => ∃ (kq : Nat) (a5 : Bool) (aG : Int) (aH : Int),d2 = .bool a5 ∧ Aside0 (spec_source_form.j0 kq a1 a2 a3 a4 a5 aA aG aH = some (r1,r2,r3)) ∧ Aside0 (kq ≤ k) ∧ Aside0 (IsS52 w0 wc g aA aG aH) ∧ Aside0 (KeepBut w wc g none) ∧ Aside0 (Below w0.heap.size w0 wc))
 case first =>
  have H:=dK.out;clear dK
  by_cases c7 : a4 < 3
  ·rw [if_pos c7] at H
   have bJ:=dt c7;clear c7;(first | rw [bJ] | (simp only [i64_w,i32_w];rw [bJ]) | skip);have H':=A_ H;clear H
   go_wp2
   go_meet
   case rel => exact ⟨_,(true),(bH),(bI),Z22,H',⟨Z47⟩,⟨Z7 HI0.out⟩,⟨Z5⟩,⟨Z10 HI0.out⟩⟩
  ·rw [if_neg c7] at H
   have bJ:=df c7;clear c7;(first | rw [bJ] | (simp only [i64_w,i32_w];rw [bJ]) | skip);replace H:=bS H;obtain ⟨⟨b8,b9,cA⟩,d0,H⟩:=H
   try dsimp only at H
   have A8:=A_ d0;clear d0;have H':=A_ H;clear H
   go_wp2_with (first | (go_at_call 12;(with_reducible refine (spec_source_pick.calls k g aA bH bI 2 b8 b9 cA w0 _ ?s1 ?s2 A8.out).mono ?_);(case s1 => exact Z7 HI0.out);(case s2 => exact Z10 HI0.out);rintro e w9 ⟨rfl,hi,hb,hk⟩;replace HK:=A_ (kt Z5 hk (.inl rfl));replace HB:=A_ hb;replace HI0:=A_ hi;(try clear hb)))
   go_meet
   case rel => exact ⟨_,((b8 == 0)),(b9),(cA),Z22,H',⟨Z47⟩,⟨Z7 HI0.out⟩,⟨Z5⟩,⟨Z10 HI0.out⟩⟩
 case rest =>
  clear dK;obtain ⟨kq,a5,aG,aH,rfl,HA,bY,HI0,HK,HB⟩:=hcut
  cases kq with
  | zero => exact absurd HA.out (by simp [spec_source_form.j0])
  | succ dL =>
   have H:=HA.out;clear HA;simp only [spec_source_form.j0] at H
   by_cases c10 : a5 = true
   ·subst c10
    rw [if_pos rfl] at H;replace H:=bS H;obtain ⟨⟨aW,aX,aY,aZ,a0,cB,cC⟩,cD,H⟩:=H
    try dsimp only at H
    have d3:=A_ cD;clear cD;obtain ⟨dM,bK⟩ : ∃ y_ : List (S70),y_ = (([(⟨aW,aX,(⟨aY,aZ,a0⟩ : S67)⟩ : S70)] : List (S70))):=⟨_,rfl⟩;replace H : (some (dM,cB,cC)) = some (r1,r2,r3):=yH bK;have bX:=A_ bK;clear bK;simp only [Option.some.injEq,Prod.mk.injEq] at H;obtain ⟨rfl,rfl,rfl⟩:=H
    go_wp2_with (first | ((with_reducible refine gate_callee (f:=32) rfl ?_);refine gL 27 Try.func32 #[.pointer (some ⟨g,0,none⟩),.int .i64 a1,.int .i64 a2,.int .i64 a3] ?_;(with_reducible refine (spec_source_leaf.calls dL g aA aG aH a1 a2 a3 aW aX aY aZ a0 cB cC w0 _ ?s1 ?s2 d3.out).mono ?_);(case s1 => exact Z7 HI0.out);(case s2 => exact Z10 HI0.out);rintro e eK ⟨rfl,hi,hb,hk⟩;refine ⟨_,rfl,?_⟩;replace HK:=A_ (kt Z5 hk (.inl rfl));replace HB:=A_ hb;replace HI0:=A_ hi;(try clear hb)) | ((with_reducible refine gate_dst (N:=28) rfl ?_);refine Kd.R_lit k70 _ 70 ?hg (N:=28) ?hd (xs:=([(⟨aW,aX,(⟨aY,aZ,a0⟩ : S67)⟩ : S70)] : List (S70))) (inner:=[.int .i64 aW,.int .i64 aX,.int .i64 aY,.int .i64 aZ,.string a0]) (ok:=fun _ => True) (okp:=fun _ => True) ?hr ?hp (fun _ hk => hk) trivial (Below.refl _ _) (Nat.le_refl _) (by simp) ?_;(case hd => rfl);(case hg => rfl);(case hr => exact Z51);(case hp => exact (Reps.c5 (show Kd.M k70 _ _ _ (⟨aW,aX,(⟨aY,aZ,a0⟩ : S67)⟩ : S70) [.int .i64 aW,.int .i64 aX,.int .i64 aY,.int .i64 aZ,.string a0] from (k70_mkM _ _ _ (⟨aW,aX,(⟨aY,aZ,a0⟩ : S67)⟩ : S70) )) (Reps.none _ _)));intro d4 eL bL hb hg_ hnew_;clear hg_ hnew_;(first | rw [← bX.out] at bL | (simp only [Int.reduceToNat] at bL;rw [← bX.out] at bL));have cE:=A_ (Kd.R_lower bL (keep_size (w:=w) (g:=g) (row:=none) Z5));replace HK:=A_ (kt Z5 (kb hb g none) (.inl rfl));replace HB:=A_ (bst (Z10 HI0.out) hb);replace HI0:=A_ (IsS52.below (Z7 HI0.out) hb);clear hb bL))
    go_ret
    exact ⟨_,Z12,Z17 cE.out,Z7 HI0.out,Z10 HI0.out,Z5⟩
   ·replace c10:=Bool.eq_false_iff.mpr c10
    subst c10;rw [if_neg (show ¬ (false = true) by decide)] at H;have bZ:=A_ H;clear H
    go_upto_region 3 with (fail)
    go_cut [35] (fun d5 wc => ∃ (kq : Nat) (aQ : Bool) (aC : Int) (aD : Int),d5 = .bool aQ ∧ Aside0 (spec_source_form.j1 kq a1 a2 a3 a4 aQ aA aC aD = some (r1,r2,r3)) ∧ Aside0 (kq ≤ dL) ∧ Aside0 (IsS52 w0 wc g aA aC aD) ∧ Aside0 (KeepBut w wc g none) ∧ Aside0 (Below w0.heap.size w0 wc))
    case first =>
     have H:=bZ.out;clear bZ
     by_cases b7 : a4 > 3
     ·rw [if_pos b7] at H
      have aU : decide (3 < a4) = true:=dt b7;clear b7;(first | rw [aU] | (simp only [i64_w,i32_w];rw [aU]) | skip);replace H:=bS H;obtain ⟨⟨cF,cG,cH⟩,cI,H⟩:=H
      try dsimp only at H
      have d6:=A_ cI;clear cI;have H':=A_ H;clear H
      go_wp2_with (first | (go_at_call 12;(with_reducible refine (spec_source_pick.calls dL g aA aG aH 4 cF cG cH w0 _ ?s1 ?s2 d6.out).mono ?_);(case s1 => exact Z7 HI0.out);(case s2 => exact Z10 HI0.out);rintro e eM ⟨rfl,hi,hb,hk⟩;replace HK:=A_ (kt Z5 hk (.inl rfl));replace HB:=A_ hb;replace HI0:=A_ hi;(try clear hb)))
      go_meet
      case rel => exact ⟨_,((cF == 0)),(cG),(cH),Z22,H',⟨by have:=bY.out;first | omega | exact Nat.le_refl _⟩,⟨Z7 HI0.out⟩,⟨Z5⟩,⟨Z10 HI0.out⟩⟩
     ·rw [if_neg b7] at H
      have aU : decide (3 < a4) = false:=df b7;clear b7;(first | rw [aU] | (simp only [i64_w,i32_w];rw [aU]) | skip);have H':=A_ H;clear H
      go_wp2
      go_meet
      case rel => exact ⟨_,(false),(aG),(aH),Z22,H',⟨by have:=bY.out;first | omega | exact Nat.le_refl _⟩,⟨Z7 HI0.out⟩,⟨Z5⟩,⟨Z10 HI0.out⟩⟩
    case rest =>
     clear bZ;obtain ⟨kq,aQ,aC,aD,rfl,HA,bM,HI0,HK,HB⟩:=hcut
     cases kq with
     | zero => exact absurd HA.out (by simp [spec_source_form.j1])
     | succ bD =>
      have H:=HA.out;clear HA;simp only [spec_source_form.j1] at H
      by_cases dE : aQ = true
      ·subst dE
       rw [if_pos rfl] at H;replace H:=bS H;obtain ⟨⟨bO,b0,b1⟩,cJ,H⟩:=H
       try dsimp only at H
       have d7:=A_ cJ;clear cJ;replace H:=bS H;obtain ⟨⟨aM,bP,bQ⟩,cK,H⟩:=H
       try dsimp only at H
       have d8:=A_ cK;clear cK;replace H:=bS H;obtain ⟨⟨aV,dN,dO⟩,cL,H⟩:=H
       try dsimp only at H
       have d9:=A_ cL;clear cL
       by_cases dF : bO.length + aM.length < 2932031007402
       ·rw [if_pos dF] at H
        have cM:=A_ dF;clear dF;obtain ⟨b2,a6⟩ : ∃ y_ : List (S70),y_ = (bO ++ aM):=⟨_,rfl⟩
        first | rw [← a6,Option.bind_some] at H | rw [← a6] at H
        have cN:=A_ a6;clear a6
        by_cases dG : b2.length + aV.length < 2932031007402
        ·rw [if_pos dG] at H
         have cO:=A_ dG;clear dG;obtain ⟨b3,a7⟩ : ∃ y_ : List (S70),y_ = (b2 ++ aV):=⟨_,rfl⟩
         first | rw [← a7,Option.bind_some] at H | rw [← a7] at H
         have cP:=A_ a7;clear a7
         by_cases dH : b3.length < 2932031007402
         ·rw [if_pos dH] at H
          have cQ:=A_ dH;clear dH;obtain ⟨eA,a8⟩ : ∃ y_ : List (S70),y_ = (b3 ++ [(⟨6,0,(⟨0,0,(⟨#[]⟩ : ByteArray)⟩ : S67)⟩ : S70)]):=⟨_,rfl⟩
          first | rw [← a8,Option.bind_some] at H | rw [← a8] at H
          have cR:=A_ a8;clear a8;simp only [Option.some.injEq,Prod.mk.injEq] at H;obtain ⟨rfl,rfl,rfl⟩:=H
          go_wp2_with (first | ((with_reducible refine gate_callee (f:=21) rfl ?_);refine gL 40 Try.func21 #[.pointer (some ⟨g,0,none⟩),.int .i64 a1,.int .i64 a2,.int .i64 a3,.int .i64 1] ?_;(with_reducible refine (ih bD (by have:=bY.out;have:=bM.out;omega) g aA aC aD a1 a2 a3 1 bO b0 b1 w0 _ ?s1 ?s2 d7.out).mono ?_);(case s1 => exact Z7 HI0.out);(case s2 => exact Z10 HI0.out);rintro e eN ⟨dP,rfl,aT,hi,hb,hk⟩;refine ⟨_,rfl,?_⟩;have aI:=A_ (Kd.R_lower aT (keep_size (w:=w) (g:=g) (row:=none) Z5));replace HK:=A_ (kt Z5 hk (.inl rfl));replace HB:=A_ hb;replace HI0:=A_ hi;(try clear hb);(try clear aT)) | ((with_reducible refine gate_callee (f:=21) rfl ?_);refine gL 45 Try.func21 #[.pointer (some ⟨g,0,none⟩),.int .i64 a1,.int .i64 a2,.int .i64 a3,.int .i64 1] ?_;(with_reducible refine (ih bD (by have:=bY.out;have:=bM.out;omega) g aA b0 b1 a1 a2 a3 1 aM bP bQ w0 _ ?s1 ?s2 d8.out).mono ?_);(case s1 => exact Z7 HI0.out);(case s2 => exact Z10 HI0.out);rintro e eO ⟨eB,rfl,aT,hi,hb,hk⟩;refine ⟨_,rfl,?_⟩;have aB:=A_ (Kd.R_lower (Kd.R_new' aT (Kd.R_lt (Z17 aI.out))) (keep_size (w:=w) (g:=g) (row:=none) Z5));replace aI:=A_ (Rm (Kd.R_told (Kd.R_oldK (IsS52.apart (show IsS52 w0 _ g aA b0 b1 from (Z7 HI0.out)) (Z17 aI.out) (by decide)) hk) (Kd.R_base aT)) (fun _ h_ => h_.1));replace HK:=A_ (kt Z5 hk (.inl rfl));replace HB:=A_ hb;replace HI0:=A_ hi;(try clear hb);(try clear aT)) | ((with_reducible refine gate_callee (f:=21) rfl ?_);refine gL 52 Try.func21 #[.pointer (some ⟨g,0,none⟩),.int .i64 a1,.int .i64 a2,.int .i64 a3,.int .i64 (wrap64 (a4 - 3))] ?_;(with_reducible refine (ih bD (by have:=bY.out;have:=bM.out;omega) g aA bP bQ a1 a2 a3 (wrap64 (a4 - 3)) aV dN dO w0 _ ?s1 ?s2 d9.out).mono ?_);(case s1 => exact Z7 HI0.out);(case s2 => exact Z10 HI0.out);rintro e eP ⟨cS,rfl,aT,hi,hb,hk⟩;refine ⟨_,rfl,?_⟩;have aE:=A_ (Kd.R_lower (Kd.R_new' (Kd.R_new' aT (Kd.R_lt (Z17 aI.out))) (Kd.R_lt (Z17 aB.out))) (keep_size (w:=w) (g:=g) (row:=none) Z5));replace aI:=A_ (Rm (Kd.R_told (Kd.R_oldK (IsS52.apart (show IsS52 w0 _ g aA bP bQ from (Z7 HI0.out)) (Z17 aI.out) (by decide)) hk) (Kd.R_base aT)) (fun _ h_ => h_.1));replace aB:=A_ (Rm (Kd.R_told (Kd.R_oldK (IsS52.apart (show IsS52 w0 _ g aA bP bQ from (Z7 HI0.out)) (Z17 aB.out) (by decide)) hk) (Kd.R_base aT)) (fun _ h_ => h_.1));replace HK:=A_ (kt Z5 hk (.inl rfl));replace HB:=A_ hb;replace HI0:=A_ hi;(try clear hb);(try clear aT);obtain ⟨bE,bF,dQ⟩:=Kd.R_slice aB.out;subst dQ) | ((with_reducible refine gate_builtin (b:=.append) (xs:=#[.tmp 53,.tmp 54]) rfl ?_);at_builtin;refine Kd.R_append_rows k70 w.heap.size rfl (.tmp 53) (.tmp 54) 42 70 (.agg #[(.int .i64 0),(.int .i64 0),(.int .i64 0),(.int .i64 0),(.string ⟨#[]⟩)]) 48 rfl Try.underlying42 info70 rfl (by decide) (by omega) dP bO aM _ _ _ (fun k_ => ob k_ bE aM bF ∧ some k_ ≠ (cS : Value).ownBlock) (fun _ => False) rfl rfl ?aO ?aR (fun _ _ h => h) (fun _ h => h.elim) ?aF (Below.refl _ _) ?aS ?aL ?_;(case aR => exact Z32 aB.out);(case aF => exact (fun k_ hk => ⟨Kd.fresh' (Kd.R_lt (Z17 aB.out)) k_ hk,Kd.fresh' (Kd.R_lt (Z17 aE.out)) k_ hk⟩));(case aO => exact (by (with_reducible repeat (first | apply Kd.R_alloc | apply Kd.R_drewN | apply Kd.R_drew));exact Rm aI.out (fun _ hk => ⟨hk.1.2,hk.2⟩)));(case aS => exact (keep_size (w:=w) (g:=g) (row:=none) Z5));(case aL => have:=cM.out;omega);intro dR eQ ho hb hg hat;rw [← cN.out] at ho;replace aB:=A_ (Kd.R_after (ok:=(fun k_ => some k_ ≠ (cS : Value).ownBlock)) (by (with_reducible repeat (first | apply Kd.R_alloc | apply Kd.R_drewN | apply Kd.R_drew));exact Rm aB.out (fun _ hk => ⟨hk.2,hk.1.2⟩)) hg hat);replace aE:=A_ (Kd.R_after (ok:=(fun k_ => ob k_ bE aM bF)) (by (with_reducible repeat (first | apply Kd.R_alloc | apply Kd.R_drewN | apply Kd.R_drew));exact Rm aE.out (fun _ hk => ⟨hk.2,hk.1.2⟩)) hg hat);replace HB:=A_ (below_weaken (Z10 HI0.out) HL.out hb);replace HI0:=A_ (IsS52.grown (Z7 HI0.out) hg (IsS52.own_ne HI0.out aI.out (by decide)));replace HK:=A_ (kt Z5 (KeepBut.of_grown hg g) (Kd.R_base2 aI.out));have a9:=A_ ho;clear aI;clear ho hb hg hat;obtain ⟨bR,bT,dS⟩:=Kd.R_slice aE.out;subst dS) | ((with_reducible refine gate_builtin (b:=.append) (xs:=#[.tmp 55,.tmp 56]) rfl ?_);at_builtin;refine Kd.R_append_rows k70 w.heap.size rfl (.tmp 55) (.tmp 56) 42 70 (.agg #[(.int .i64 0),(.int .i64 0),(.int .i64 0),(.int .i64 0),(.string ⟨#[]⟩)]) 48 rfl Try.underlying42 info70 rfl (by decide) (by omega) dR b2 aV _ _ _ (fun k_ => ob k_ bE aM bF ∧ ob k_ bR aV bT) (fun _ => False) rfl rfl ?aO ?aR (fun _ _ h => h) (fun _ h => h.elim) ?aF (Below.refl _ _) ?aS ?aL ?_;(case aR => exact Z32 aE.out);(case aF => exact (fun k_ hk => ⟨Kd.fresh' (Kd.R_lt (Z17 aB.out)) k_ hk,Kd.fresh' (Kd.R_lt (Z17 aE.out)) k_ hk⟩));(case aO => exact (Z17 a9.out));(case aS => exact (keep_size (w:=w) (g:=g) (row:=none) Z5));(case aL => have:=cO.out;omega);intro dT eR ho hb hg hat;rw [← cP.out] at ho;replace aB:=A_ (Kd.R_after (ok:=(fun k_ => ob k_ bR aV bT)) (Z17 aB.out) hg hat);replace aE:=A_ (Kd.R_after (ok:=(fun k_ => ob k_ bE aM bF)) (Z17 aE.out) hg hat);replace HB:=A_ (below_weaken (Z10 HI0.out) HL.out hb);replace HI0:=A_ (IsS52.grown (Z7 HI0.out) hg (IsS52.own_ne HI0.out a9.out (by decide)));replace HK:=A_ (kt Z5 (KeepBut.of_grown hg g) (Kd.R_base2 a9.out));have bA:=A_ ho;clear a9;clear ho hb hg hat) | ((with_reducible refine gate_builtin (b:=.append) (xs:=#[.tmp 57,.tmp 59]) rfl ?_);at_builtin;refine Kd.R_append k70 w.heap.size rfl (.tmp 57) (.tmp 59) 42 70 (.agg #[(.int .i64 0),(.int .i64 0),(.int .i64 0),(.int .i64 0),(.string ⟨#[]⟩)]) 48 rfl Try.underlying42 info70 rfl (by decide) (by omega) dT b3 (⟨6,0,(⟨0,0,(⟨#[]⟩ : ByteArray)⟩ : S67)⟩ : S70) [.int .i64 6,.int .i64 0,.int .i64 0,.int .i64 0,.string (⟨#[]⟩ : ByteArray)] (fun k_ => ob k_ bE aM bF ∧ ob k_ bR aV bT) (fun _ => False) rfl rfl ?aP (fun _ hk => hk.elim) ?aF ?aO (Below.refl _ _) ?aS ?aL ?_;(case aP => exact k70_mkM _ _ _ (⟨6,0,(⟨0,0,(⟨#[]⟩ : ByteArray)⟩ : S67)⟩ : S70));(case aF => exact (fun k_ hk => ⟨Kd.fresh' (Kd.R_lt (Z17 aB.out)) k_ hk,Kd.fresh' (Kd.R_lt (Z17 aE.out)) k_ hk⟩));(case aO => exact (Z17 bA.out));(case aS => exact (keep_size (w:=w) (g:=g) (row:=none) Z5));(case aL => have:=cQ.out;omega);intro eC eS ho hb hg hat;rw [← cR.out] at ho;replace aB:=A_ (Kd.R_after (ok:=(fun k_ => ob k_ bR aV bT)) (Z17 aB.out) hg hat);replace aE:=A_ (Kd.R_after (ok:=(fun k_ => ob k_ bE aM bF)) (Z17 aE.out) hg hat);replace HB:=A_ (below_weaken (Z10 HI0.out) HL.out hb);replace HI0:=A_ (IsS52.grown (Z7 HI0.out) hg (IsS52.own_ne HI0.out bA.out (by decide)));replace HK:=A_ (kt Z5 (KeepBut.of_grown hg g) (Kd.R_base2 bA.out));have cT:=A_ ho;clear bA;clear ho hb hg hat))
          go_ret
          exact ⟨_,Z12,Z55 cT.out,Z7 HI0.out,Z10 HI0.out,Z5⟩
         ·rw [if_neg dH] at H
          exact absurd H (by simp)
        ·rw [if_neg dG] at H
         exact absurd H (by simp)
       ·rw [if_neg dF] at H
        exact absurd H (by simp)
      ·replace dE:=Bool.eq_false_iff.mpr dE
       subst dE;rw [if_neg (show ¬ (false = true) by decide)] at H;replace H:=bS H;obtain ⟨⟨bU,b4,b5⟩,cU,H⟩:=H
       try dsimp only at H
       have eD:=A_ cU;clear cU;replace H:=bS H;obtain ⟨⟨bG,bV,bW⟩,cV,H⟩:=H
       try dsimp only at H
       have eE:=A_ cV;clear cV
       by_cases dI : bU.length + bG.length < 2932031007402
       ·rw [if_pos dI] at H
        have cW:=A_ dI;clear dI;obtain ⟨b6,bB⟩ : ∃ y_ : List (S70),y_ = (bU ++ bG):=⟨_,rfl⟩
        first | rw [← bB,Option.bind_some] at H | rw [← bB] at H
        have cX:=A_ bB;clear bB;replace H:=bS H;obtain ⟨⟨bN,dU,dV⟩,cY,H⟩:=H
        try dsimp only at H
        have eF:=A_ cY;clear cY
        by_cases dJ : b6.length < 2932031007402
        ·rw [if_pos dJ] at H
         have cZ:=A_ dJ;clear dJ;obtain ⟨eG,bC⟩ : ∃ y_ : List (S70),y_ = (b6 ++ [(⟨5,bN,(⟨0,0,(⟨#[]⟩ : ByteArray)⟩ : S67)⟩ : S70)]):=⟨_,rfl⟩
         first | rw [← bC,Option.bind_some] at H | rw [← bC] at H
         have dA:=A_ bC;clear bC;simp only [Option.some.injEq,Prod.mk.injEq] at H;obtain ⟨rfl,rfl,rfl⟩:=H
         go_wp2_with (first | ((with_reducible refine gate_callee (f:=21) rfl ?_);refine gL 65 Try.func21 #[.pointer (some ⟨g,0,none⟩),.int .i64 a1,.int .i64 a2,.int .i64 a3,.int .i64 1] ?_;(with_reducible refine (ih bD (by have:=bY.out;have:=bM.out;omega) g aA aC aD a1 a2 a3 1 bU b4 b5 w0 _ ?s1 ?s2 eD.out).mono ?_);(case s1 => exact Z7 HI0.out);(case s2 => exact Z10 HI0.out);rintro e eT ⟨dW,rfl,aT,hi,hb,hk⟩;refine ⟨_,rfl,?_⟩;have aK:=A_ (Kd.R_lower aT (keep_size (w:=w) (g:=g) (row:=none) Z5));replace HK:=A_ (kt Z5 hk (.inl rfl));replace HB:=A_ hb;replace HI0:=A_ hi;(try clear hb);(try clear aT)) | ((with_reducible refine gate_callee (f:=21) rfl ?_);refine gL 72 Try.func21 #[.pointer (some ⟨g,0,none⟩),.int .i64 a1,.int .i64 a2,.int .i64 a3,.int .i64 (wrap64 (a4 - 2))] ?_;(with_reducible refine (ih bD (by have:=bY.out;have:=bM.out;omega) g aA b4 b5 a1 a2 a3 (wrap64 (a4 - 2)) bG bV bW w0 _ ?s1 ?s2 eE.out).mono ?_);(case s1 => exact Z7 HI0.out);(case s2 => exact Z10 HI0.out);rintro e eU ⟨eH,rfl,aT,hi,hb,hk⟩;refine ⟨_,rfl,?_⟩;have aJ:=A_ (Kd.R_lower (Kd.R_new' aT (Kd.R_lt (Z17 aK.out))) (keep_size (w:=w) (g:=g) (row:=none) Z5));replace aK:=A_ (Rm (Kd.R_told (Kd.R_oldK (IsS52.apart (show IsS52 w0 _ g aA b4 b5 from (Z7 HI0.out)) (Z17 aK.out) (by decide)) hk) (Kd.R_base aT)) (fun _ h_ => h_.1));replace HK:=A_ (kt Z5 hk (.inl rfl));replace HB:=A_ hb;replace HI0:=A_ hi;(try clear hb);(try clear aT);obtain ⟨dB,dC,dX⟩:=Kd.R_slice aJ.out;subst dX) | ((with_reducible refine gate_builtin (b:=.append) (xs:=#[.tmp 73,.tmp 74]) rfl ?_);at_builtin;refine Kd.R_append_rows k70 w.heap.size rfl (.tmp 73) (.tmp 74) 42 70 (.agg #[(.int .i64 0),(.int .i64 0),(.int .i64 0),(.int .i64 0),(.string ⟨#[]⟩)]) 48 rfl Try.underlying42 info70 rfl (by decide) (by omega) dW bU bG _ _ _ (fun k_ => ob k_ dB bG dC) (fun _ => False) rfl rfl ?aO ?aR (fun _ _ h => h) (fun _ h => h.elim) ?aF (Below.refl _ _) ?aS ?aL ?_;(case aR => exact Z32 aJ.out);(case aF => exact (fun k_ hk => Kd.fresh' (Kd.R_lt (Z17 aJ.out)) k_ hk));(case aO => exact (by (with_reducible repeat (first | apply Kd.R_alloc | apply Kd.R_drewN | apply Kd.R_drew));exact Rm aK.out (fun _ hk => hk.2)));(case aS => exact (keep_size (w:=w) (g:=g) (row:=none) Z5));(case aL => have:=cW.out;omega);intro dY eV ho hb hg hat;rw [← cX.out] at ho;replace aJ:=A_ (Kd.R_after (ok:=(fun _ => True)) (Z17 aJ.out) hg hat);replace HB:=A_ (below_weaken (Z10 HI0.out) HL.out hb);replace HI0:=A_ (IsS52.grown (Z7 HI0.out) hg (IsS52.own_ne HI0.out aK.out (by decide)));replace HK:=A_ (kt Z5 (KeepBut.of_grown hg g) (Kd.R_base2 aK.out));have aN:=A_ ho;clear aK;clear ho hb hg hat) | ((with_reducible refine gate_callee (f:=12) rfl ?_);refine gL 77 Try.func12 #[.pointer (some ⟨g,0,none⟩),.int .i64 7] ?_;(with_reducible refine (spec_source_pick.calls bD g aA bV bW 7 bN dU dV w0 _ ?s1 ?s2 eF.out).mono ?_);(case s1 => exact Z7 HI0.out);(case s2 => exact Z10 HI0.out);rintro e eW ⟨rfl,hi,hb,hk⟩;refine ⟨_,rfl,?_⟩;replace aJ:=A_ (Rm (Kd.R_keep (IsS52.apart (show IsS52 w0 _ g aA bV bW from (Z7 HI0.out)) (Z17 aJ.out) (by decide)) hk (fun _ h => h.2)) (fun _ h => h.1));replace aN:=A_ (Rm (Kd.R_keep (IsS52.apart (show IsS52 w0 _ g aA bV bW from (Z7 HI0.out)) (Z17 aN.out) (by decide)) hk (fun _ h => h.2)) (fun _ h => h.1));replace HK:=A_ (kt Z5 hk (.inl rfl));replace HB:=A_ hb;replace HI0:=A_ hi;(try clear hb)) | ((with_reducible refine gate_builtin (b:=.append) (xs:=#[.tmp 75,.tmp 79]) rfl ?_);at_builtin;refine Kd.R_append k70 w.heap.size rfl (.tmp 75) (.tmp 79) 42 70 (.agg #[(.int .i64 0),(.int .i64 0),(.int .i64 0),(.int .i64 0),(.string ⟨#[]⟩)]) 48 rfl Try.underlying42 info70 rfl (by decide) (by omega) dY b6 (⟨5,bN,(⟨0,0,(⟨#[]⟩ : ByteArray)⟩ : S67)⟩ : S70) [.int .i64 5,.int .i64 bN,.int .i64 0,.int .i64 0,.string (⟨#[]⟩ : ByteArray)] (fun k_ => ob k_ dB bG dC) (fun _ => False) rfl rfl ?aP (fun _ hk => hk.elim) ?aF ?aO (Below.refl _ _) ?aS ?aL ?_;(case aP => exact k70_mkM _ _ _ (⟨5,bN,(⟨0,0,(⟨#[]⟩ : ByteArray)⟩ : S67)⟩ : S70));(case aF => exact (fun k_ hk => Kd.fresh' (Kd.R_lt (Z17 aJ.out)) k_ hk));(case aO => exact (Z17 aN.out));(case aS => exact (keep_size (w:=w) (g:=g) (row:=none) Z5));(case aL => have:=cZ.out;omega);intro eI eX ho hb hg hat;rw [← dA.out] at ho;replace aJ:=A_ (Kd.R_after (ok:=(fun _ => True)) (Z17 aJ.out) hg hat);replace HB:=A_ (below_weaken (Z10 HI0.out) HL.out hb);replace HI0:=A_ (IsS52.grown (Z7 HI0.out) hg (IsS52.own_ne HI0.out aN.out (by decide)));replace HK:=A_ (kt Z5 (KeepBut.of_grown hg g) (Kd.R_base2 aN.out));have dD:=A_ ho;clear aN;clear ho hb hg hat))
         go_ret
         exact ⟨_,Z12,Z55 dD.out,Z7 HI0.out,Z10 HI0.out,Z5⟩
        ·rw [if_neg dJ] at H
         exact absurd H (by simp)
       ·rw [if_neg dI] at H
        exact absurd H (by simp)
def spec_source_formOf.f (k : Nat) (aB : List Int) (aC : Int) (aD : Int) (aE : Int) (aF : List (S67)) (aG : List (List (S57))) (aH : Int) (aI : Int) (aJ : List Int) (aK : List (List (S70))) (aL : List (S70)) (aM : List (S76)) (aN : List (S46)) (a2 : Int) (a3 : Int) : Option ((List (S70)) × Int × Int):=(spec_source_form.f k aB aC aD aE (aF.length : Int) a2 a3).bind fun aA => (some (aA.1,aA.2.1,aA.2.2))
theorem spec_source_formOf.calls (k : Nat) (g : Nat) (aK : List Int) (aM : Int) (aN : Int) (aL : Int) (aR : Option Addr) (aS : Nat) (aB : List (S67)) (aT : Option Addr) (aU : Nat) (aE : List (List (S57))) (aV : Int) (aW : Int) (aO : Option Addr) (aX : Nat) (aD : List Int) (aY : Option Addr) (aZ : Nat) (aF : List (List (S70))) (a0 : Option Addr) (a4 : Nat) (aG : List (S70)) (a5 : Option Addr) (a6 : Nat) (aH : List (S76)) (a7 : Option Addr) (a8 : Nat) (aI : List (S46)) (a2 : Int) (a3 : Int) (r1 : List (S70)) (r2 : Int) (r3 : Int) (w0 w : World) (hI : IsS52 w0 w g aK aM aN) (hB : Below w0.heap.size w0 w) (a9 : ∀ W_,KeepBut w W_ g none → Kd.C k67 W_ aR aB.length aB) (bA : aB.length ≤ aS) (bB : ∀ W_,KeepBut w W_ g none → Kd.C (Kd.slice 57 k57) W_ aT aE.length aE) (bC : aE.length ≤ aU) (bD : Kd.C (Kd.int .i64) w aO aD.length aD) (bE : aD.length ≤ aX) (cD : ∀ ad,aO = some ad → 0 < aD.length → ad.block ≠ g) (bF : ∀ W_,KeepBut w W_ g none → Kd.C (Kd.slice 70 k70) W_ aY aF.length aF) (bG : aF.length ≤ aZ) (bH : ∀ W_,KeepBut w W_ g none → Kd.C k70 W_ a0 aG.length aG) (bI : aG.length ≤ a4) (bJ : ∀ W_,KeepBut w W_ g none → Kd.C k76 W_ a5 aH.length aH) (bK : aH.length ≤ a6) (bL : ∀ W_,KeepBut w W_ g none → Kd.C k46 W_ a7 aI.length aI) (bM : aI.length ≤ a8) (h : spec_source_formOf.f k aK aM aN aL aB aE aV aW aD aF aG aH aI a2 a3 = some (r1,r2,r3)) :
  Calls Try.prog 33 #[.pointer (some ⟨g,0,none⟩),.agg #[.int .i64 aL,.slice aR aB.length aS,.slice aT aE.length aU,.int .i64 aV,.int .i64 aW,.slice aO aD.length aX,.slice aY aF.length aZ,.slice a0 aG.length a4,.slice a5 aH.length a6,.slice a7 aI.length a8],.int .i64 a2,.int .i64 a3] w fun e w' => ∃ cE : Value,e = .returned (cE) ∧ Kd.R k70 70 w' w.heap.size (fun _ => True) cE r1 ∧ IsS52 w0 w' g aK r2 r3 ∧ Below w0.heap.size w0 w' ∧ KeepBut w w' g none:=by
 have cV:=Try.underlying48;have cF:=A_ a9;have cG:=A_ bA;clear a9 bA;have cH:=A_ bB;have cI:=A_ bC;clear bB bC;have cJ:=A_ bD;have cK:=A_ bE;clear bD bE;have cL:=A_ bF;have cM:=A_ bG;clear bF bG;have cN:=A_ bH;have cO:=A_ bI;clear bH bI;have cP:=A_ bJ;have cQ:=A_ bK;clear bJ bK;have cR:=A_ bL;have cS:=A_ bM;clear bL bM;have HI0:=A_ hI;have HK:=A_ (KeepBut.refl w g none);have HL:=A_ hB.size;clear hI;have cW:=A_ hB.size;have HB:=A_ hB;clear hB;have H:=h;unfold spec_source_formOf.f at H;clear h;replace H:=bS H;obtain ⟨⟨bP,bQ,bR⟩,cT,H⟩:=H
 try dsimp only at H
 have A5:=A_ cT;clear cT;simp only [Option.some.injEq,Prod.mk.injEq] at H;obtain ⟨rfl,rfl,rfl⟩:=H
 go_enter Try.func33,Try.ntmps33
 go_wp2_with (first | ((with_reducible refine gate_dst (N:=5) rfl ?_);refine be (cs:=#[.int .i64 aL,.slice aR aB.length aS,.slice aT aE.length aU,.int .i64 aV,.int .i64 aW,.slice aO aD.length aX,.slice aY aF.length aZ,.slice a0 aG.length a4,.slice a5 aH.length a6,.slice a7 aI.length a8]) (t:=48) ?_;intro aA hg w6 hbox hb;replace HB:=A_ (bst (Z10 HI0.out) hb);have aP:=A_ hbox;have aQ:=A_ ((by rw [hg];exact (keep_size (w:=w) (g:=g) (row:=none) Z5) : w.heap.size ≤ aA));have bN:=A_ ((Nat.le_trans cW.out (by rw [hg];exact (keep_size (w:=w) (g:=g) (row:=none) Z5) : w.heap.size ≤ aA) : w0.heap.size ≤ aA));replace HK:=A_ (kt Z5 (kb hb g none) (.inl rfl));have aC:=A_ ((by rw [hg];exact nl (IsS52.lt (show IsS52 w0 _ g aK aM aN from (Z7 HI0.out))) : g ≠ aA));have aJ:=A_ ((by rw [hg];exact Nat.ne_of_gt (IsS52.lt (show IsS52 w0 _ g aK aM aN from (Z7 HI0.out))) : aA ≠ g));replace HI0:=A_ (IsS52.below (Z7 HI0.out) hb);clear hb hbox hg;have cX:=aJ.out;have cY:=aC.out;obtain ⟨bT,bU,bV,bW,bX,bY,bZ,b0,b1,b2,b3,b4,b5,b6,b7,b8,b9,cA,cB,cC⟩:=C10 aP.out) | ((with_reducible refine gate_callee (f:=21) rfl ?_);refine gL 17 Try.func21 #[.pointer (some ⟨g,0,none⟩),.int .i64 aL,.int .i64 (aB.length : Int),.int .i64 a2,.int .i64 a3] ?_;(with_reducible refine (spec_source_form.calls k g aK aM aN aL (aB.length : Int) a2 a3 bP bQ bR w0 _ ?s1 ?s2 A5.out).mono ?_);(case s1 => exact Z13 HI0.out aC.out);(case s2 => exact Z19 HI0.out bN.out);rintro e w9 ⟨cZ,rfl,cU,hi,hb,hk⟩;refine ⟨_,rfl,?_⟩;replace aP:=A_ (kB_ hk aJ.out aP.out);have bO:=A_ (Kd.R_lower cU (keep_size (w:=w) (g:=g) (row:=none) (Z16 aQ.out)));replace HK:=A_ (kt (Z16 aQ.out) hk (.inl rfl));replace HB:=A_ hb;replace HI0:=A_ hi;(try clear hb);(try clear cU)))
 go_ret
 exact ⟨_,Z12,Z17 bO.out,Z13 HI0.out aC.out,Z19 HI0.out bN.out,Z16 aQ.out⟩
def spec_source_small.f (k : Nat) (aD : List Int) (aE : Int) (aF : Int) (a1 : Int) (a2 : Int) (a3 : Int) : Option ((List (S70)) × Int × Int):=(spec_source_pick.f k aD aE aF 3).bind fun aA => (if aA.1 > 0 then ((spec_source_pick.f k aD aA.2.1 aA.2.2 4).bind fun aB => (some ((([(⟨0,0,(⟨1,aB.1,(⟨#[]⟩ : ByteArray)⟩ : S67)⟩ : S70)] : List (S70))),aB.2.1,aB.2.2))) else ((spec_source_form.f k aD aA.2.1 aA.2.2 a1 a2 a3 3).bind fun aC => (some (aC.1,aC.2.1,aC.2.2))))
theorem spec_source_small.calls (k : Nat) (g : Nat) (aA : List Int) (aF : Int) (aG : Int) (a1 : Int) (a2 : Int) (a3 : Int) (r1 : List (S70)) (r2 : Int) (r3 : Int) (w0 w : World) (hI : IsS52 w0 w g aA aF aG) (hB : Below w0.heap.size w0 w) (h : spec_source_small.f k aA aF aG a1 a2 a3 = some (r1,r2,r3)) :
  Calls Try.prog 35 #[.pointer (some ⟨g,0,none⟩),.int .i64 a1,.int .i64 a2,.int .i64 a3] w fun e w' => ∃ aU : Value,e = .returned (aU) ∧ Kd.R k70 70 w' w.heap.size (fun _ => True) aU r1 ∧ IsS52 w0 w' g aA r2 r3 ∧ Below w0.heap.size w0 w' ∧ KeepBut w w' g none:=by
 have aY:=Try.underlying67;have aZ:=Try.underlying70;have HI0:=A_ hI;have HK:=A_ (KeepBut.refl w g none);have HL:=A_ hB.size;clear hI;have a6:=A_ hB.size;have HB:=A_ hB;clear hB;have H:=h;unfold spec_source_small.f at H;clear h;replace H:=bS H;obtain ⟨⟨aC,aH,aI⟩,aV,H⟩:=H
 try dsimp only at H
 have A5:=A_ aV;clear aV
 by_cases c6 : aC > 0
 ·rw [if_pos c6] at H
  have aP : decide (0 < aC) = true:=dt c6;clear c6;replace H:=bS H;obtain ⟨⟨aB,aK,aL⟩,aW,H⟩:=H
  try dsimp only at H
  have A7:=A_ aW;clear aW;obtain ⟨aQ,aD⟩ : ∃ y_ : List (S70),y_ = (([(⟨0,0,(⟨1,aB,(⟨#[]⟩ : ByteArray)⟩ : S67)⟩ : S70)] : List (S70))):=⟨_,rfl⟩;replace H : (some (aQ,aK,aL)) = some (r1,r2,r3):=yH aD;have aJ:=A_ aD;clear aD;simp only [Option.some.injEq,Prod.mk.injEq] at H;obtain ⟨rfl,rfl,rfl⟩:=H
  go_enter Try.func35,Try.ntmps35
  go_wp2_with (first | ((with_reducible refine gate_callee (f:=12) rfl ?_);refine gL 10 Try.func12 #[.pointer (some ⟨g,0,none⟩),.int .i64 3] ?_;(with_reducible refine (spec_source_pick.calls k g aA aF aG 3 aC aH aI w0 _ ?s1 ?s2 A5.out).mono ?_);(case s1 => exact Z7 HI0.out);(case s2 => exact Z10 HI0.out);rintro e w8 ⟨rfl,hi,hb,hk⟩;refine ⟨_,rfl,?_⟩;replace HK:=A_ (kt Z5 hk (.inl rfl));replace HB:=A_ hb;replace HI0:=A_ hi;(try clear hb)) | ((with_reducible refine gate_callee (f:=12) rfl ?_);refine gL 13 Try.func12 #[.pointer (some ⟨g,0,none⟩),.int .i64 4] ?_;(with_reducible refine (spec_source_pick.calls k g aA aH aI 4 aB aK aL w0 _ ?s1 ?s2 A7.out).mono ?_);(case s1 => exact Z7 HI0.out);(case s2 => exact Z10 HI0.out);rintro e w9 ⟨rfl,hi,hb,hk⟩;refine ⟨_,rfl,?_⟩;replace HK:=A_ (kt Z5 hk (.inl rfl));replace HB:=A_ hb;replace HI0:=A_ hi;(try clear hb)) | ((with_reducible refine gate_dst (N:=16) rfl ?_);refine Kd.R_lit k70 _ 70 ?hg (N:=16) ?hd (xs:=([(⟨0,0,(⟨1,aB,(⟨#[]⟩ : ByteArray)⟩ : S67)⟩ : S70)] : List (S70))) (inner:=[.int .i64 0,.int .i64 0,.int .i64 1,.int .i64 aB,.string (⟨#[]⟩ : ByteArray)]) (ok:=fun _ => True) (okp:=fun _ => True) ?hr ?hp (fun _ hk => hk) trivial (Below.refl _ _) (Nat.le_refl _) (by simp) ?_;(case hd => rfl);(case hg => rfl);(case hr => exact Z51);(case hp => exact (Reps.c5 (show Kd.M k70 _ _ _ (⟨0,0,(⟨1,aB,(⟨#[]⟩ : ByteArray)⟩ : S67)⟩ : S70) [.int .i64 0,.int .i64 0,.int .i64 1,.int .i64 aB,.string (⟨#[]⟩ : ByteArray)] from (k70_mkM _ _ _ (⟨0,0,(⟨1,aB,(⟨#[]⟩ : ByteArray)⟩ : S67)⟩ : S70) )) (Reps.none _ _)));intro a0 a7 aE hb hg_ hnew_;clear hg_ hnew_;(first | rw [← aJ.out] at aE | (simp only [Int.reduceToNat] at aE;rw [← aJ.out] at aE));have aM:=A_ (Kd.R_lower aE (keep_size (w:=w) (g:=g) (row:=none) Z5));replace HK:=A_ (kt Z5 (kb hb g none) (.inl rfl));replace HB:=A_ (bst (Z10 HI0.out) hb);replace HI0:=A_ (IsS52.below (Z7 HI0.out) hb);clear hb aE))
  go_ret
  exact ⟨_,Z12,Z17 aM.out,Z7 HI0.out,Z10 HI0.out,Z5⟩
 ·rw [if_neg c6] at H
  have aP : decide (0 < aC) = false:=df c6;clear c6;replace H:=bS H;obtain ⟨⟨aR,aS,aT⟩,aN,H⟩:=H
  try dsimp only at H
  have a4:=A_ aN;clear aN;simp only [Option.some.injEq,Prod.mk.injEq] at H;obtain ⟨rfl,rfl,rfl⟩:=H
  go_enter Try.func35,Try.ntmps35
  go_wp2_with (first | ((with_reducible refine gate_callee (f:=12) rfl ?_);refine gL 10 Try.func12 #[.pointer (some ⟨g,0,none⟩),.int .i64 3] ?_;(with_reducible refine (spec_source_pick.calls k g aA aF aG 3 aC aH aI w0 _ ?s1 ?s2 A5.out).mono ?_);(case s1 => exact Z7 HI0.out);(case s2 => exact Z10 HI0.out);rintro e a8 ⟨rfl,hi,hb,hk⟩;refine ⟨_,rfl,?_⟩;replace HK:=A_ (kt Z5 hk (.inl rfl));replace HB:=A_ hb;replace HI0:=A_ hi;(try clear hb)) | ((with_reducible refine gate_callee (f:=21) rfl ?_);refine gL 21 Try.func21 #[.pointer (some ⟨g,0,none⟩),.int .i64 a1,.int .i64 a2,.int .i64 a3,.int .i64 3] ?_;(with_reducible refine (spec_source_form.calls k g aA aH aI a1 a2 a3 3 aR aS aT w0 _ ?s1 ?s2 a4.out).mono ?_);(case s1 => exact Z7 HI0.out);(case s2 => exact Z10 HI0.out);rintro e a9 ⟨a5,rfl,aX,hi,hb,hk⟩;refine ⟨_,rfl,?_⟩;have aO:=A_ (Kd.R_lower aX (keep_size (w:=w) (g:=g) (row:=none) Z5));replace HK:=A_ (kt Z5 hk (.inl rfl));replace HB:=A_ hb;replace HI0:=A_ hi;(try clear hb);(try clear aX)))
  go_ret
  exact ⟨_,Z12,Z17 aO.out,Z7 HI0.out,Z10 HI0.out,Z5⟩
end Go.Proofs.Ytmgdjmeoljepgaa.PFnProgBelow
