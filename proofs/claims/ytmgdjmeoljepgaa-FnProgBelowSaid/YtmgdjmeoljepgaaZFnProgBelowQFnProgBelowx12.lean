/- Walks (lines of the print; no condition). -/
import Derived.Test.YtmgdjmeoljepgaaZFnProgBelowQFnProgBelowx11
namespace Go.Proofs.Ytmgdjmeoljepgaa.PFnProgBelow
open Go.RowKit Go.Proofs.YtmgdjmeoljepgaaW.PrintWords Go.Proofs.YtmgdjmeoljepgaaW.PrintLast Go.Proofs.YtmgdjmeoljepgaaW.PrintMore
attribute [local go_sem] max2_int min2_int max_two min_two max_three min_three max_four min_four
set_option linter.unusedVariables false
set_option linter.unusedSimpArgs false
set_option maxHeartbeats 8000000
set_option maxRecDepth 100000
def spec_source_text.l0 : Nat → ByteArray → Int → List Int → Int → Int → Option (ByteArray × Int × Int)
 | 0,_,_,_,_,_ => none
 | k + 1,x3,x4,aC,aD,aE => if x4 > 0 then ((some (([(⟨#[97]⟩ : ByteArray),(⟨#[98]⟩ : ByteArray),(⟨#[122,57]⟩ : ByteArray),(⟨#[32]⟩ : ByteArray),(⟨#[48]⟩ : ByteArray),(⟨#[108,111,110,103]⟩ : ByteArray)] : List ByteArray) : List ByteArray)).bind fun aF => ((spec_source_pick.f k aC aD aE 6).bind fun aA => (if 0 ≤ aA.1 then (if aA.1 < (aF.length : Int) then (if x3.size + (rdOf ByteArray.empty aF aA.1).size ≤ 9223372036854775807 then (spec_source_text.l0 k (x3 ++ (rdOf ByteArray.empty aF aA.1)) (wrap64 (x4 - 1)) aC aA.2.1 aA.2.2) else (none)) else (none)) else (none)))) else ((spec_source_rarely.f k aC aD aE).bind fun aB => (if aB.1 = true then (if x3.size + 1 ≤ 9223372036854775807 then (some (x3 ++ (⟨#[81]⟩ : ByteArray),aB.2.1,aB.2.2)) else (none)) else (some (x3,aB.2.1,aB.2.2))))
def spec_source_text.f (k : Nat) (aB : List Int) (aC : Int) (aD : Int) : Option (ByteArray × Int × Int):=(spec_source_pick.f k aB aC aD 4).bind fun aA => (spec_source_text.l0 k (⟨#[]⟩ : ByteArray) aA.1 aB aA.2.1 aA.2.2)
theorem spec_source_text.mono_l : ∀ k,(∀ y0 y1 y2 y3 y4,LeO (spec_source_text.l0 k y0 y1 y2 y3 y4) (spec_source_text.l0 (k + 1) y0 y1 y2 y3 y4))
 | 0 => fun _ _ _ _ _ r h => by simp [spec_source_text.l0] at h
 | k + 1 => by
  have aA:=spec_source_text.mono_l k
  ·intro y0 y1 y2 y3 y4
   unfold spec_source_text.l0
   repeat' first
   | (with_reducible exact aA _ _ _ _ _)
   | (with_reducible exact spec_source_pick.mono _ _ _ _ _)
   | (with_reducible exact spec_source_rarely.mono _ _ _ _)
   | (with_reducible exact LeO.refl _)
   | (with_reducible exact LeO.none _)
   | (with_reducible refine LeO.ite ?_ ?_)
   | (with_reducible refine LeO.bind ?_ (fun _ => ?_))
   | exact aA _ _ _ _ _
   | exact spec_source_pick.mono _ _ _ _ _
   | exact spec_source_rarely.mono _ _ _ _
   | exact LeO.none _
   | refine LeO.ite ?_ ?_
   | refine LeO.bind ?_ (fun _ => ?_)
theorem spec_source_text.mono : ∀ a0 a1 a2 k,LeO (spec_source_text.f k a0 a1 a2) (spec_source_text.f (k + 1) a0 a1 a2):=by
 intro a0 a1 a2 k
 have aA:=spec_source_text.mono_l k;unfold spec_source_text.f
 repeat' first
   | (with_reducible exact aA _ _ _ _ _)
   | (with_reducible exact spec_source_pick.mono _ _ _ _ _)
   | (with_reducible exact spec_source_rarely.mono _ _ _ _)
   | (with_reducible exact LeO.refl _)
   | (with_reducible exact LeO.none _)
   | (with_reducible refine LeO.ite ?_ ?_)
   | (with_reducible refine LeO.bind ?_ (fun _ => ?_))
   | exact aA _ _ _ _ _
   | exact spec_source_pick.mono _ _ _ _ _
   | exact spec_source_rarely.mono _ _ _ _
   | exact LeO.none _
   | refine LeO.ite ?_ ?_
   | refine LeO.bind ?_ (fun _ => ?_)
theorem spec_source_text.calls (k : Nat) (g : Nat) (aC : List Int) (aM : Int) (aN : Int) (r1 : ByteArray) (r2 : Int) (r3 : Int) (w0 w : World) (hI : IsS52 w0 w g aC aM aN) (hB : Below w0.heap.size w0 w) (h : spec_source_text.f k aC aM aN = some (r1,r2,r3)) :
  Calls Try.prog 53 #[.pointer (some ⟨g,0,none⟩)] w fun e w' => e = .returned (.string r1) ∧ IsS52 w0 w' g aC r2 r3 ∧ Below w0.heap.size w0 w' ∧ KeepBut w w' g none:=by
 have HI0:=A_ hI;have HK:=A_ (KeepBut.refl w g none);have HL:=A_ hB.size;clear hI;have bM:=A_ hB.size;have HB:=A_ hB;clear hB;have H:=h;unfold spec_source_text.f at H;clear h;replace H:=bS H;obtain ⟨⟨aQ,aR,aS⟩,a6,H⟩:=H
 try dsimp only at H
 have A2:=A_ a6;clear a6;have H':=A_ H;clear H
 go_enter Try.func53,Try.ntmps53
 go_wp2_with (first | ((with_reducible refine gate_callee (f:=12) rfl ?_);refine gL 6 Try.func12 #[.pointer (some ⟨g,0,none⟩),.int .i64 4] ?_;(with_reducible refine (spec_source_pick.calls k g aC aM aN 4 aQ aR aS w0 _ ?s1 ?s2 A2.out).mono ?_);(case s1 => exact Z7 HI0.out);(case s2 => exact Z10 HI0.out);rintro e w3 ⟨rfl,hi,hb,hk⟩;refine ⟨_,rfl,?_⟩;replace HK:=A_ (kt Z5 hk (.inl rfl));replace HB:=A_ hb;replace HI0:=A_ hi;(try clear hb)))
 go_loopg [3,4] k (fun kq v3 v4 w' => ∃ (aD : ByteArray) (aG : Int) (aA : Int) (aB : Int),v3 = .string aD ∧ v4 = .int .i64 aG ∧ Aside0 (spec_source_text.l0 kq aD aG aC aA aB = some (r1,r2,r3)) ∧ Aside0 (kq ≤ k) ∧ Aside0 (IsS52 w0 w' g aC aA aB) ∧ Aside0 (KeepBut w w' g none) ∧ Aside0 (Below w0.heap.size w0 w'))
 case atStart => exact ⟨((⟨#[]⟩ : ByteArray)),(aQ),(aR),(aS),Z22,Z22,H',⟨Nat.le_refl _⟩,⟨Z7 HI0.out⟩,⟨Z5⟩,⟨Z10 HI0.out⟩⟩
 case round =>
  clear H';obtain ⟨aD,aG,aA,aB,rfl,rfl,HA,a7,HI0,HK,HB⟩:=hrel
  cases gk with
  | zero => exact absurd HA.out (by simp [spec_source_text.l0])
  | succ k1 =>
   have H:=HA.out;clear HA;simp only [spec_source_text.l0] at H
   by_cases c4 : aG > 0
   ·rw [if_pos c4] at H
    have a2 : decide (0 < aG) = true:=dt c4;clear c4;obtain ⟨aH,aJ⟩ : ∃ y_ : List ByteArray,y_ = (([(⟨#[97]⟩ : ByteArray),(⟨#[98]⟩ : ByteArray),(⟨#[122,57]⟩ : ByteArray),(⟨#[32]⟩ : ByteArray),(⟨#[48]⟩ : ByteArray),(⟨#[108,111,110,103]⟩ : ByteArray)] : List ByteArray)):=⟨_,rfl⟩;replace H : ((spec_source_pick.f k1 aC aA aB 6).bind fun aE => (if 0 ≤ aE.1 then (if aE.1 < (aH.length : Int) then (if aD.size + (rdOf ByteArray.empty aH aE.1).size ≤ 9223372036854775807 then (spec_source_text.l0 k1 (aD ++ (rdOf ByteArray.empty aH aE.1)) (wrap64 (aG - 1)) aC aE.2.1 aE.2.2) else (none)) else (none)) else (none))) = some (r1,r2,r3):=yH aJ;have aL:=A_ aJ;clear aJ;replace H:=bS H;obtain ⟨⟨aF,aT,aU⟩,a8,H⟩:=H
    try dsimp only at H
    have A5:=A_ a8;clear a8
    by_cases c6 : 0 ≤ aF
    ·rw [if_pos c6] at H
     have bE:=dt c6;clear c6
     by_cases c7 : aF < (aH.length : Int)
     ·rw [if_pos c7] at H
      have bF:=dt c7;clear c7
      by_cases c8 : aD.size + (rdOf ByteArray.empty aH aF).size ≤ 9223372036854775807
      ·rw [if_pos c8] at H
       have bG:=eq_true c8;have bH:=dt c8
       try have bI : (9223372036854775807 < aD.size + (rdOf ByteArray.empty aH aF).size) = False:=eq_false (Nat.not_lt.2 c8)
       have H':=A_ H;clear H
       go_wp2_with (first | ((with_reducible refine gate_dst (N:=12) rfl ?_);refine Kd.R_lit Kd.string _ 9 ?hg (N:=12) ?hd (xs:=([(⟨#[97]⟩ : ByteArray),(⟨#[98]⟩ : ByteArray),(⟨#[122,57]⟩ : ByteArray),(⟨#[32]⟩ : ByteArray),(⟨#[48]⟩ : ByteArray),(⟨#[108,111,110,103]⟩ : ByteArray)] : List ByteArray)) (inner:=[.string (⟨#[97]⟩ : ByteArray),.string (⟨#[98]⟩ : ByteArray),.string (⟨#[122,57]⟩ : ByteArray),.string (⟨#[32]⟩ : ByteArray),.string (⟨#[48]⟩ : ByteArray),.string (⟨#[108,111,110,103]⟩ : ByteArray)]) (ok:=fun _ => True) (okp:=fun _ => True) ?hr ?hp (fun _ hk => hk) trivial (Below.refl _ _) (Nat.le_refl _) (by simp) ?_;(case hd => rfl);(case hg => rfl);(case hr => exact Z51);(case hp => exact (Reps.one (show Kd.M Kd.string _ _ _ (⟨#[97]⟩ : ByteArray) [.string (⟨#[97]⟩ : ByteArray)] from rfl) (Reps.one (show Kd.M Kd.string _ _ _ (⟨#[98]⟩ : ByteArray) [.string (⟨#[98]⟩ : ByteArray)] from rfl) (Reps.one (show Kd.M Kd.string _ _ _ (⟨#[122,57]⟩ : ByteArray) [.string (⟨#[122,57]⟩ : ByteArray)] from rfl) (Reps.one (show Kd.M Kd.string _ _ _ (⟨#[32]⟩ : ByteArray) [.string (⟨#[32]⟩ : ByteArray)] from rfl) (Reps.one (show Kd.M Kd.string _ _ _ (⟨#[48]⟩ : ByteArray) [.string (⟨#[48]⟩ : ByteArray)] from rfl) (Reps.one (show Kd.M Kd.string _ _ _ (⟨#[108,111,110,103]⟩ : ByteArray) [.string (⟨#[108,111,110,103]⟩ : ByteArray)] from rfl) (Reps.none _ _))))))));intro bJ w9 aK hb hg_ hnew_;clear hg_ hnew_;(first | rw [← aL.out] at aK | (simp only [Int.reduceToNat] at aK;rw [← aL.out] at aK));have aI:=A_ (Kd.R_lower aK (keep_size (w:=w) (g:=g) (row:=none) Z5));replace HK:=A_ (kt Z5 (kb hb g none) (.inl rfl));replace HB:=A_ (bst (Z10 HI0.out) hb);replace HI0:=A_ (IsS52.below (Z7 HI0.out) hb);clear hb aK) | ((with_reducible refine gate_callee (f:=12) rfl ?_);refine gL 14 Try.func12 #[.pointer (some ⟨g,0,none⟩),.int .i64 6] ?_;(with_reducible refine (spec_source_pick.calls k1 g aC aA aB 6 aF aT aU w0 _ ?s1 ?s2 A5.out).mono ?_);(case s1 => exact Z7 HI0.out);(case s2 => exact Z10 HI0.out);rintro e bN ⟨rfl,hi,hb,hk⟩;refine ⟨_,rfl,?_⟩;replace aI:=A_ (Rm (Kd.R_keep (IsS52.apart (show IsS52 w0 _ g aC aA aB from (Z7 HI0.out)) (Z17 aI.out) (by decide)) hk (fun _ h => h.2)) (fun _ h => h.1));replace HK:=A_ (kt Z5 hk (.inl rfl));replace HB:=A_ hb;replace HI0:=A_ hi;(try clear hb);obtain ⟨bK,bL,a3⟩:=Kd.R_slice aI.out;subst a3;have aO : 0 ≤ (aF : Int):=odt;have aP : aF < (aH.length : Int):=odt;obtain ⟨a9,a4,aZ⟩:=Kd.at_string (Kd.R_reads' aI.out).2.2 aF aO aP;cases a4;replace aO:=eq_true aO;replace aP:=eq_true aP))
       go_roundg k1
       case measure => have:=a7.out;omega
       case rel => exact ⟨(aD ++ (rdOf ByteArray.empty aH aF)),(wrap64 (aG - 1)),(aT),(aU),Z22,Z22,H',⟨by have:=a7.out;omega⟩,⟨Z7 HI0.out⟩,⟨Z5⟩,⟨Z10 HI0.out⟩⟩
      ·rw [if_neg c8] at H
       exact absurd H (by simp)
     ·rw [if_neg c7] at H
      exact absurd H (by simp)
    ·rw [if_neg c6] at H
     exact absurd H (by simp)
   ·rw [if_neg c4] at H
    have a2 : decide (0 < aG) = false:=df c4;clear c4;replace H:=bS H;obtain ⟨⟨a5,aV,aW⟩,aX,H⟩:=H
    try dsimp only at H
    have bA:=A_ aX;clear aX
    by_cases a0 : a5 = true
    ·subst a0
     rw [if_pos rfl] at H
     by_cases aY : aD.size + 1 ≤ 9223372036854775807
     ·rw [if_pos aY] at H
      have bB:=eq_true aY;have bC:=dt aY
      try have bD : (9223372036854775807 < aD.size + 1) = False:=eq_false (Nat.not_lt.2 aY)
      simp only [Option.some.injEq,Prod.mk.injEq] at H;obtain ⟨rfl,rfl,rfl⟩:=H
      go_wp2_with (first | ((with_reducible refine gate_callee (f:=23) rfl ?_);refine gL 19 Try.func23 #[.pointer (some ⟨g,0,none⟩)] ?_;(with_reducible refine (spec_source_rarely.calls k1 g aC aA aB true aV aW w0 _ ?s1 ?s2 bA.out).mono ?_);(case s1 => exact Z7 HI0.out);(case s2 => exact Z10 HI0.out);rintro e bO ⟨rfl,hi,hb,hk⟩;refine ⟨_,rfl,?_⟩;replace HK:=A_ (kt Z5 hk (.inl rfl));replace HB:=A_ hb;replace HI0:=A_ hi;(try clear hb)))
      go_ret
      exact ⟨Z12,Z7 HI0.out,Z10 HI0.out,Z5⟩
     ·rw [if_neg aY] at H
      exact absurd H (by simp)
    ·replace a0:=Bool.eq_false_iff.mpr a0
     subst a0;rw [if_neg (show ¬ (false = true) by decide)] at H;simp only [Option.some.injEq,Prod.mk.injEq] at H;obtain ⟨rfl,rfl,rfl⟩:=H
     go_wp2_with (first | ((with_reducible refine gate_callee (f:=23) rfl ?_);refine gL 19 Try.func23 #[.pointer (some ⟨g,0,none⟩)] ?_;(with_reducible refine (spec_source_rarely.calls k1 g aC aA aB false aV aW w0 _ ?s1 ?s2 bA.out).mono ?_);(case s1 => exact Z7 HI0.out);(case s2 => exact Z10 HI0.out);rintro e bP ⟨rfl,hi,hb,hk⟩;refine ⟨_,rfl,?_⟩;replace HK:=A_ (kt Z5 hk (.inl rfl));replace HB:=A_ hb;replace HI0:=A_ hi;(try clear hb)))
     go_ret
     exact ⟨Z12,Z7 HI0.out,Z10 HI0.out,Z5⟩
def spec_source_value.f (k : Nat) (aE : List Int) (aF : Int) (aG : Int) : Option (Int × Int × ByteArray × Int × Int):=(spec_source_pick.f k aE aF aG 6).bind fun aA => (if aA.1 = 0 then (some (0,0,(⟨#[]⟩ : ByteArray),aA.2.1,aA.2.2)) else (if aA.1 = 1 then ((spec_source_text.f k aE aA.2.1 aA.2.2).bind fun aB => (some (2,0,aB.1,aB.2.1,aB.2.2))) else (if aA.1 = 2 then ((spec_source_one.f k aE aA.2.1 aA.2.2 (([0,1,(-1),1000,(-1000),500,1001] : List Int))).bind fun aC => (some (1,aC.1,(⟨#[]⟩ : ByteArray),aC.2.1,aC.2.2))) else ((spec_source_pick.f k aE aA.2.1 aA.2.2 6).bind fun aD => (some (1,wrap64 (aD.1 - 1),(⟨#[]⟩ : ByteArray),aD.2.1,aD.2.2))))))
theorem spec_source_value.mono : ∀ a0 a1 a2 k,LeO (spec_source_value.f k a0 a1 a2) (spec_source_value.f (k + 1) a0 a1 a2):=by
 intro a0 a1 a2 k
 unfold spec_source_value.f
 repeat' first
   | (with_reducible exact spec_source_one.mono _ _ _ _ _)
   | (with_reducible exact spec_source_pick.mono _ _ _ _ _)
   | (with_reducible exact spec_source_text.mono _ _ _ _)
   | (with_reducible exact LeO.refl _)
   | (with_reducible exact LeO.none _)
   | (with_reducible refine LeO.ite ?_ ?_)
   | (with_reducible refine LeO.bind ?_ (fun _ => ?_))
   | exact spec_source_one.mono _ _ _ _ _
   | exact spec_source_pick.mono _ _ _ _ _
   | exact spec_source_text.mono _ _ _ _
   | exact LeO.none _
   | refine LeO.ite ?_ ?_
   | refine LeO.bind ?_ (fun _ => ?_)
theorem spec_source_value.calls (k : Nat) (g : Nat) (aG : List Int) (aI : Int) (aJ : Int) (r1 : Int) (r2 : Int) (r3 : ByteArray) (r4 : Int) (r5 : Int) (w0 w : World) (hI : IsS52 w0 w g aG aI aJ) (hB : Below w0.heap.size w0 w) (h : spec_source_value.f k aG aI aJ = some (r1,r2,r3,r4,r5)) :
  Calls Try.prog 45 #[.pointer (some ⟨g,0,none⟩)] w fun e w' => e = .returned (.agg #[.int .i64 r1,.int .i64 r2,.string r3]) ∧ IsS52 w0 w' g aG r4 r5 ∧ Below w0.heap.size w0 w' ∧ KeepBut w w' g none:=by
 have cC:=Try.underlying67;have HI0:=A_ hI;have HK:=A_ (KeepBut.refl w g none);have HL:=A_ hB.size;clear hI;have a0:=A_ hB.size;have HB:=A_ hB;clear hB;have H:=h;unfold spec_source_value.f at H;clear h;replace H:=bS H;obtain ⟨⟨aH,aL,aM⟩,b4,H⟩:=H
 try dsimp only at H
 have A2:=A_ b4;clear b4
 by_cases c3 : aH = 0
 ·rw [if_pos c3] at H
  have bK:=e_t c3;have bL:=n_f c3;clear c3;simp only [Option.some.injEq,Prod.mk.injEq] at H;obtain ⟨rfl,rfl,rfl,rfl,rfl⟩:=H
  go_enter Try.func45,Try.ntmps45
  go_wp2_with (first | ((with_reducible refine gate_dst (N:=2) rfl ?_);refine be (cs:=#[.int .i64 0,.int .i64 0,.string (⟨#[]⟩ : ByteArray)]) (t:=67) ?_;intro aA hg w4 hbox hb;replace HB:=A_ (bst (Z10 HI0.out) hb);have aC:=A_ hbox;have aE:=A_ ((by rw [hg];exact (keep_size (w:=w) (g:=g) (row:=none) Z5) : w.heap.size ≤ aA));have aF:=A_ ((Nat.le_trans a0.out (by rw [hg];exact (keep_size (w:=w) (g:=g) (row:=none) Z5) : w.heap.size ≤ aA) : w0.heap.size ≤ aA));replace HK:=A_ (kt Z5 (kb hb g none) (.inl rfl));have aB:=A_ ((by rw [hg];exact nl (IsS52.lt (show IsS52 w0 _ g aG aI aJ from (Z7 HI0.out))) : g ≠ aA));have aD:=A_ ((by rw [hg];exact Nat.ne_of_gt (IsS52.lt (show IsS52 w0 _ g aG aI aJ from (Z7 HI0.out))) : aA ≠ g));replace HI0:=A_ (IsS52.below (Z7 HI0.out) hb);clear hb hbox hg) | ((with_reducible refine gate_callee (f:=12) rfl ?_);refine gL 4 Try.func12 #[.pointer (some ⟨g,0,none⟩),.int .i64 6] ?_;(with_reducible refine (spec_source_pick.calls k g aG aI aJ 6 aH aL aM w0 _ ?s1 ?s2 A2.out).mono ?_);(case s1 => exact Z13 HI0.out aB.out);(case s2 => exact Z19 HI0.out aF.out);rintro e w5 ⟨rfl,hi,hb,hk⟩;refine ⟨_,rfl,?_⟩;replace aC:=A_ (kB_ hk aD.out aC.out);replace HK:=A_ (kt (Z16 aE.out) hk (.inl rfl));replace HB:=A_ hb;replace HI0:=A_ hi;(try clear hb);have cD:=aD.out;have cE:=aB.out;obtain ⟨bM,bN,bO,bP,bQ,bR⟩:=C3 aC.out))
  refine bodyPost_ret (results_cell_row rfl _ _ aA 67 #[.int .i64 0,.int .i64 0,.string (⟨#[]⟩ : ByteArray)] (0,0) _ rfl (bp0 aC.out) Try.underlying67 rfl (by kernel_rfl)) rfl ?_
  exact ⟨Z12,Z13 HI0.out aB.out,Z19 HI0.out aF.out,Z16 aE.out⟩
 ·rw [if_neg c3] at H
  have bK:=e_f c3;have bL:=n_t c3
  by_cases c8 : aH = 1
  ·rw [if_pos c8] at H
   have bT:=e_t c8;have bU:=n_f c8;clear c8;replace H:=bS H;obtain ⟨⟨aT,bV,bW⟩,b5,H⟩:=H
   try dsimp only at H
   have A9:=A_ b5;clear b5;simp only [Option.some.injEq,Prod.mk.injEq] at H;obtain ⟨rfl,rfl,rfl,rfl,rfl⟩:=H
   go_enter Try.func45,Try.ntmps45
   go_wp2_with (first | ((with_reducible refine gate_dst (N:=2) rfl ?_);refine be (cs:=#[.int .i64 0,.int .i64 0,.string (⟨#[]⟩ : ByteArray)]) (t:=67) ?_;intro aA hg cI hbox hb;replace HB:=A_ (bst (Z10 HI0.out) hb);have aC:=A_ hbox;have aE:=A_ ((by rw [hg];exact (keep_size (w:=w) (g:=g) (row:=none) Z5) : w.heap.size ≤ aA));have aF:=A_ ((Nat.le_trans a0.out (by rw [hg];exact (keep_size (w:=w) (g:=g) (row:=none) Z5) : w.heap.size ≤ aA) : w0.heap.size ≤ aA));replace HK:=A_ (kt Z5 (kb hb g none) (.inl rfl));have aB:=A_ ((by rw [hg];exact nl (IsS52.lt (show IsS52 w0 _ g aG aI aJ from (Z7 HI0.out))) : g ≠ aA));have aD:=A_ ((by rw [hg];exact Nat.ne_of_gt (IsS52.lt (show IsS52 w0 _ g aG aI aJ from (Z7 HI0.out))) : aA ≠ g));replace HI0:=A_ (IsS52.below (Z7 HI0.out) hb);clear hb hbox hg) | ((with_reducible refine gate_callee (f:=12) rfl ?_);refine gL 4 Try.func12 #[.pointer (some ⟨g,0,none⟩),.int .i64 6] ?_;(with_reducible refine (spec_source_pick.calls k g aG aI aJ 6 aH aL aM w0 _ ?s1 ?s2 A2.out).mono ?_);(case s1 => exact Z13 HI0.out aB.out);(case s2 => exact Z19 HI0.out aF.out);rintro e cJ ⟨rfl,hi,hb,hk⟩;refine ⟨_,rfl,?_⟩;replace aC:=A_ (kB_ hk aD.out aC.out);replace HK:=A_ (kt (Z16 aE.out) hk (.inl rfl));replace HB:=A_ hb;replace HI0:=A_ hi;(try clear hb)) | ((with_reducible refine gate_callee (f:=53) rfl ?_);refine gL 11 Try.func53 #[.pointer (some ⟨g,0,none⟩)] ?_;(with_reducible refine (spec_source_text.calls k g aG aL aM aT bV bW w0 _ ?s1 ?s2 A9.out).mono ?_);(case s1 => exact Z13 HI0.out aB.out);(case s2 => exact Z19 HI0.out aF.out);rintro e cK ⟨rfl,hi,hb,hk⟩;refine ⟨_,rfl,?_⟩;replace aC:=A_ (kB_ hk aD.out aC.out);replace HK:=A_ (kt (Z16 aE.out) hk (.inl rfl));replace HB:=A_ hb;replace HI0:=A_ hi;(try clear hb);have b6:=aD.out;have b7:=aB.out;obtain ⟨a2,a3,a4,a5,a6,a7⟩:=C3 aC.out))
   refine bodyPost_ret (results_cell_row rfl _ _ aA 67 #[.int .i64 2,.int .i64 0,.string aT] (0,0) _ rfl (bp0 aC.out) Try.underlying67 rfl (by kernel_rfl)) rfl ?_
   exact ⟨Z12,Z13 HI0.out aB.out,Z19 HI0.out aF.out,Z16 aE.out⟩
  ·rw [if_neg c8] at H
   have bT:=e_f c8;have bU:=n_t c8
   by_cases aR : aH = 2
   ·rw [if_pos aR] at H
    have aU:=e_t aR;have aV:=n_f aR;clear aR;obtain ⟨aS,aN⟩ : ∃ y_ : List Int,y_ = (([0,1,(-1),1000,(-1000),500,1001] : List Int)):=⟨_,rfl⟩;replace H : ((spec_source_one.f k aG aL aM aS).bind fun aO => (some (1,aO.1,(⟨#[]⟩ : ByteArray),aO.2.1,aO.2.2))) = some (r1,r2,r3,r4,r5):=yH aN;have aQ:=A_ aN;clear aN;replace H:=bS H;obtain ⟨⟨aW,bX,bY⟩,aX,H⟩:=H
    try dsimp only at H
    have cF:=A_ aX;clear aX;simp only [Option.some.injEq,Prod.mk.injEq] at H;obtain ⟨rfl,rfl,rfl,rfl,rfl⟩:=H
    go_enter Try.func45,Try.ntmps45
    go_wp2_with (first | ((with_reducible refine gate_dst (N:=2) rfl ?_);refine be (cs:=#[.int .i64 0,.int .i64 0,.string (⟨#[]⟩ : ByteArray)]) (t:=67) ?_;intro aA hg cL hbox hb;replace HB:=A_ (bst (Z10 HI0.out) hb);have aC:=A_ hbox;have aE:=A_ ((by rw [hg];exact (keep_size (w:=w) (g:=g) (row:=none) Z5) : w.heap.size ≤ aA));have aF:=A_ ((Nat.le_trans a0.out (by rw [hg];exact (keep_size (w:=w) (g:=g) (row:=none) Z5) : w.heap.size ≤ aA) : w0.heap.size ≤ aA));replace HK:=A_ (kt Z5 (kb hb g none) (.inl rfl));have aB:=A_ ((by rw [hg];exact nl (IsS52.lt (show IsS52 w0 _ g aG aI aJ from (Z7 HI0.out))) : g ≠ aA));have aD:=A_ ((by rw [hg];exact Nat.ne_of_gt (IsS52.lt (show IsS52 w0 _ g aG aI aJ from (Z7 HI0.out))) : aA ≠ g));replace HI0:=A_ (IsS52.below (Z7 HI0.out) hb);clear hb hbox hg) | ((with_reducible refine gate_callee (f:=12) rfl ?_);refine gL 4 Try.func12 #[.pointer (some ⟨g,0,none⟩),.int .i64 6] ?_;(with_reducible refine (spec_source_pick.calls k g aG aI aJ 6 aH aL aM w0 _ ?s1 ?s2 A2.out).mono ?_);(case s1 => exact Z13 HI0.out aB.out);(case s2 => exact Z19 HI0.out aF.out);rintro e cM ⟨rfl,hi,hb,hk⟩;refine ⟨_,rfl,?_⟩;replace aC:=A_ (kB_ hk aD.out aC.out);replace HK:=A_ (kt (Z16 aE.out) hk (.inl rfl));replace HB:=A_ hb;replace HI0:=A_ hi;(try clear hb)) | ((with_reducible refine gate_dst (N:=16) rfl ?_);refine Kd.R_lit (Kd.int .i64) _ 3 ?hg (N:=16) ?hd (xs:=([0,1,(-1),1000,(-1000),500,1001] : List Int)) (inner:=[.int .i64 0,.int .i64 1,.int .i64 (-1),.int .i64 1000,.int .i64 (-1000),.int .i64 500,.int .i64 1001]) (ok:=fun _ => True) (okp:=fun _ => True) ?hr ?hp (fun _ hk => hk) trivial (Below.refl _ _) (Nat.le_refl _) (by simp) ?_;(case hd => rfl);(case hg => rfl);(case hr => exact Z51);(case hp => exact (Reps.one (show Kd.M (Kd.int .i64) _ _ _ 0 [.int .i64 0] from rfl) (Reps.one (show Kd.M (Kd.int .i64) _ _ _ 1 [.int .i64 1] from rfl) (Reps.one (show Kd.M (Kd.int .i64) _ _ _ (-1) [.int .i64 (-1)] from rfl) (Reps.one (show Kd.M (Kd.int .i64) _ _ _ 1000 [.int .i64 1000] from rfl) (Reps.one (show Kd.M (Kd.int .i64) _ _ _ (-1000) [.int .i64 (-1000)] from rfl) (Reps.one (show Kd.M (Kd.int .i64) _ _ _ 500 [.int .i64 500] from rfl) (Reps.one (show Kd.M (Kd.int .i64) _ _ _ 1001 [.int .i64 1001] from rfl) (Reps.none _ _)))))))));intro cG cN aP hb hg_ hnew_;clear hg_ hnew_;(first | rw [← aQ.out] at aP | (simp only [Int.reduceToNat] at aP;rw [← aQ.out] at aP));have aK:=A_ (Kd.R_lower aP (keep_size (w:=w) (g:=g) (row:=none) (Z16 aE.out)));replace aC:=A_ (bb (Z1 aC.out) hb);replace HK:=A_ (kt (Z16 aE.out) (kb hb g none) (.inl rfl));replace HB:=A_ (bst (Z19 HI0.out aF.out) hb);replace HI0:=A_ (IsS52.below (Z13 HI0.out aB.out) hb);clear hb aP;obtain ⟨bZ,b0,b1⟩:=Kd.R_slice aK.out;subst b1) | ((with_reducible refine gate_callee (f:=11) rfl ?_);refine gL 17 Try.func11 #[.pointer (some ⟨g,0,none⟩),.slice bZ aS.length b0] ?_;(with_reducible refine (spec_source_one.calls k g aG aL aM _ _ aS aW bX bY w0 _ ?s1 ?s2 ?s3 ?s4 ?s5 cF.out).mono ?_);(case s1 => exact Z13 HI0.out aB.out);(case s2 => exact Z19 HI0.out aF.out);(case s3 => exact Z32 aK.out);(case s4 => exact (Kd.R_reads' aK.out).2.1);(case s5 => exact far_slice (IsS52.own_ne HI0.out aK.out (by decide)));rintro e cO ⟨rfl,hi,hb,hk⟩;refine ⟨_,rfl,?_⟩;replace aC:=A_ (kB_ hk aD.out aC.out);replace aK:=A_ (Rm (Kd.R_keep (IsS52.apart (show IsS52 w0 _ g aG aL aM from (Z13 HI0.out aB.out)) (Z17 aK.out) (by decide)) hk (fun _ h => h.2)) (fun _ h => h.1));replace HK:=A_ (kt (Z16 aE.out) hk (.inl rfl));replace HB:=A_ hb;replace HI0:=A_ hi;(try clear hb);have b8:=aD.out;have b9:=aB.out;obtain ⟨a8,a9,bA,bB,bC,bD⟩:=C3 aC.out))
    refine bodyPost_ret (results_cell_row rfl _ _ aA 67 #[.int .i64 1,.int .i64 aW,.string (⟨#[]⟩ : ByteArray)] (0,0) _ rfl (bp0 aC.out) Try.underlying67 rfl (by kernel_rfl)) rfl ?_
    exact ⟨Z12,Z13 HI0.out aB.out,Z19 HI0.out aF.out,Z16 aE.out⟩
   ·rw [if_neg aR] at H
    have aU:=e_f aR;have aV:=n_t aR;replace H:=bS H;obtain ⟨⟨aY,b2,b3⟩,aZ,H⟩:=H
    try dsimp only at H
    have cH:=A_ aZ;clear aZ;simp only [Option.some.injEq,Prod.mk.injEq] at H;obtain ⟨rfl,rfl,rfl,rfl,rfl⟩:=H
    go_enter Try.func45,Try.ntmps45
    go_wp2_with (first | ((with_reducible refine gate_dst (N:=2) rfl ?_);refine be (cs:=#[.int .i64 0,.int .i64 0,.string (⟨#[]⟩ : ByteArray)]) (t:=67) ?_;intro aA hg cP hbox hb;replace HB:=A_ (bst (Z10 HI0.out) hb);have aC:=A_ hbox;have aE:=A_ ((by rw [hg];exact (keep_size (w:=w) (g:=g) (row:=none) Z5) : w.heap.size ≤ aA));have aF:=A_ ((Nat.le_trans a0.out (by rw [hg];exact (keep_size (w:=w) (g:=g) (row:=none) Z5) : w.heap.size ≤ aA) : w0.heap.size ≤ aA));replace HK:=A_ (kt Z5 (kb hb g none) (.inl rfl));have aB:=A_ ((by rw [hg];exact nl (IsS52.lt (show IsS52 w0 _ g aG aI aJ from (Z7 HI0.out))) : g ≠ aA));have aD:=A_ ((by rw [hg];exact Nat.ne_of_gt (IsS52.lt (show IsS52 w0 _ g aG aI aJ from (Z7 HI0.out))) : aA ≠ g));replace HI0:=A_ (IsS52.below (Z7 HI0.out) hb);clear hb hbox hg) | ((with_reducible refine gate_callee (f:=12) rfl ?_);refine gL 4 Try.func12 #[.pointer (some ⟨g,0,none⟩),.int .i64 6] ?_;(with_reducible refine (spec_source_pick.calls k g aG aI aJ 6 aH aL aM w0 _ ?s1 ?s2 A2.out).mono ?_);(case s1 => exact Z13 HI0.out aB.out);(case s2 => exact Z19 HI0.out aF.out);rintro e cQ ⟨rfl,hi,hb,hk⟩;refine ⟨_,rfl,?_⟩;replace aC:=A_ (kB_ hk aD.out aC.out);replace HK:=A_ (kt (Z16 aE.out) hk (.inl rfl));replace HB:=A_ hb;replace HI0:=A_ hi;(try clear hb)) | ((with_reducible refine gate_callee (f:=12) rfl ?_);refine gL 20 Try.func12 #[.pointer (some ⟨g,0,none⟩),.int .i64 6] ?_;(with_reducible refine (spec_source_pick.calls k g aG aL aM 6 aY b2 b3 w0 _ ?s1 ?s2 cH.out).mono ?_);(case s1 => exact Z13 HI0.out aB.out);(case s2 => exact Z19 HI0.out aF.out);rintro e cR ⟨rfl,hi,hb,hk⟩;refine ⟨_,rfl,?_⟩;replace aC:=A_ (kB_ hk aD.out aC.out);replace HK:=A_ (kt (Z16 aE.out) hk (.inl rfl));replace HB:=A_ hb;replace HI0:=A_ hi;(try clear hb);have cA:=aD.out;have cB:=aB.out;obtain ⟨bE,bF,bG,bH,bI,bJ⟩:=C3 aC.out))
    refine bodyPost_ret (results_cell_row rfl _ _ aA 67 #[.int .i64 1,.int .i64 (wrap64 (aY - 1)),.string (⟨#[]⟩ : ByteArray)] (0,0) _ rfl (bp0 aC.out) Try.underlying67 rfl (by kernel_rfl)) rfl ?_
    exact ⟨Z12,Z13 HI0.out aB.out,Z19 HI0.out aF.out,Z16 aE.out⟩
def spec_source_good.f (k : Nat) (aB : List Int) (aC : Int) (aD : Int) : Option (Int × Int × ByteArray × Int × Int):=(spec_source_value.f k aB aC aD).bind fun aA => ((spec_validValue.f k aA.1 aA.2.1 aA.2.2.1).bind fun aE => (if aE = true then (some (aA.1,aA.2.1,aA.2.2.1,aA.2.2.2.1,aA.2.2.2.2)) else (some (1,2,(⟨#[]⟩ : ByteArray),aA.2.2.2.1,aA.2.2.2.2))))
theorem spec_source_good.mono : ∀ a0 a1 a2 k,LeO (spec_source_good.f k a0 a1 a2) (spec_source_good.f (k + 1) a0 a1 a2):=by
 intro a0 a1 a2 k
 unfold spec_source_good.f
 repeat' first
   | (with_reducible exact spec_source_value.mono _ _ _ _)
   | (with_reducible exact spec_validValue.mono _ _ _ _)
   | (with_reducible exact LeO.refl _)
   | (with_reducible exact LeO.none _)
   | (with_reducible refine LeO.ite ?_ ?_)
   | (with_reducible refine LeO.bind ?_ (fun _ => ?_))
   | exact spec_source_value.mono _ _ _ _
   | exact spec_validValue.mono _ _ _ _
   | exact LeO.none _
   | refine LeO.ite ?_ ?_
   | refine LeO.bind ?_ (fun _ => ?_)
theorem spec_source_good.calls (k : Nat) (g : Nat) (aF : List Int) (aN : Int) (aO : Int) (r1 : Int) (r2 : Int) (r3 : ByteArray) (r4 : Int) (r5 : Int) (w0 w : World) (hI : IsS52 w0 w g aF aN aO) (hB : Below w0.heap.size w0 w) (h : spec_source_good.f k aF aN aO = some (r1,r2,r3,r4,r5)) :
  Calls Try.prog 31 #[.pointer (some ⟨g,0,none⟩)] w fun e w' => e = .returned (.agg #[.int .i64 r1,.int .i64 r2,.string r3]) ∧ IsS52 w0 w' g aF r4 r5 ∧ Below w0.heap.size w0 w' ∧ KeepBut w w' g none:=by
 have b0:=Try.underlying67;have HI0:=A_ hI;have HK:=A_ (KeepBut.refl w g none);have HL:=A_ hB.size;clear hI;have aS:=A_ hB.size;have HB:=A_ hB;clear hB;have H:=h;unfold spec_source_good.f at H;clear h;replace H:=bS H;obtain ⟨⟨aJ,aK,aL,aP,aQ⟩,bP,H⟩:=H
 try dsimp only at H
 have A2:=A_ bP;clear bP;replace H:=bS H;obtain ⟨bO,bQ,H⟩:=H
 try dsimp only at H
 have A3:=A_ bQ;clear bQ
 by_cases c4 : bO = true
 ·subst c4
  rw [if_pos rfl] at H;simp only [Option.some.injEq,Prod.mk.injEq] at H;obtain ⟨rfl,rfl,rfl,rfl,rfl⟩:=H
  go_enter Try.func31,Try.ntmps31
  go_wp2_with (first | ((with_reducible refine gate_dst (N:=2) rfl ?_);refine be (cs:=#[.int .i64 0,.int .i64 0,.string (⟨#[]⟩ : ByteArray)]) (t:=67) ?_;intro aC hg w5 hbox hb;replace HB:=A_ (bst (Z10 HI0.out) hb);have aD:=A_ hbox;have aE:=A_ ((by rw [hg];exact (keep_size (w:=w) (g:=g) (row:=none) Z5) : w.heap.size ≤ aC));have GE224:=A_ ((Nat.le_trans aS.out (by rw [hg];exact (keep_size (w:=w) (g:=g) (row:=none) Z5) : w.heap.size ≤ aC) : w0.heap.size ≤ aC));replace HK:=A_ (kt Z5 (kb hb g none) (.inl rfl));have NB0_224:=A_ ((by rw [hg];exact nl (IsS52.lt (show IsS52 w0 _ g aF aN aO from (Z7 HI0.out))) : g ≠ aC));have aG:=A_ ((by rw [hg];exact Nat.ne_of_gt (IsS52.lt (show IsS52 w0 _ g aF aN aO from (Z7 HI0.out))) : aC ≠ g));replace HI0:=A_ (IsS52.below (Z7 HI0.out) hb);clear hb hbox hg) | ((with_reducible refine gate_callee (f:=45) rfl ?_);refine gL 5 Try.func45 #[.pointer (some ⟨g,0,none⟩)] ?_;(with_reducible refine (spec_source_value.calls k g aF aN aO aJ aK aL aP aQ w0 _ ?s1 ?s2 A2.out).mono ?_);(case s1 => exact Z13 HI0.out NB0_224.out);(case s2 => exact Z19 HI0.out GE224.out);rintro e w6 ⟨rfl,hi,hb,hk⟩;refine ⟨_,rfl,?_⟩;replace aD:=A_ (kB_ hk aG.out aD.out);replace HK:=A_ (kt (Z16 aE.out) hk (.inl rfl));replace HB:=A_ hb;replace HI0:=A_ hi;(try clear hb)) | ((with_reducible refine gate_dst (N:=3) rfl ?_);refine be (cs:=#[.int .i64 0,.int .i64 0,.string (⟨#[]⟩ : ByteArray)]) (t:=67) ?_;intro aA hg w7 hbox hb;replace HB:=A_ (bst (Z19 HI0.out GE224.out) hb);have aI:=A_ hbox;have aR:=A_ ((by rw [hg];exact (keep_size (w:=w) (g:=g) (row:=none) (Z16 aE.out)) : w.heap.size ≤ aA));have GE230:=A_ ((Nat.le_trans aS.out (by rw [hg];exact (keep_size (w:=w) (g:=g) (row:=none) (Z16 aE.out)) : w.heap.size ≤ aA) : w0.heap.size ≤ aA));replace HK:=A_ (kt (Z16 aE.out) (kb hb g none) (.inl rfl));have aB:=A_ ((by rw [hg];exact nl (blk_lt (Z1 aD.out)) : aC ≠ aA));have aH:=A_ ((by rw [hg];exact Nat.ne_of_gt (blk_lt (Z1 aD.out)) : aA ≠ aC));replace aD:=A_ (bb (Z1 aD.out) hb);have NB0_230:=A_ ((by rw [hg];exact nl (IsS52.lt (show IsS52 w0 _ g aF aP aQ from (Z13 HI0.out NB0_224.out))) : g ≠ aA));have aM:=A_ ((by rw [hg];exact Nat.ne_of_gt (IsS52.lt (show IsS52 w0 _ g aF aP aQ from (Z13 HI0.out NB0_224.out))) : aA ≠ g));replace HI0:=A_ (IsS52.below (Z13 HI0.out NB0_224.out) hb);clear hb hbox hg;have b1:=aH.out;have b2:=aB.out;have b3:=aM.out;have b4:=NB0_230.out;obtain ⟨aT,aU,aV,aW,aX,aY⟩:=C3 aI.out) | ((with_reducible refine gate_callee (f:=39) rfl ?_);refine gL 7 Try.func39 #[.agg #[.int .i64 aJ,.int .i64 aK,.string aL]] ?_;(with_reducible refine (spec_validValue.calls k aJ aK aL true _ A3.out).mono ?_);rintro e b6 ⟨rfl,hb⟩;refine ⟨_,rfl,?_⟩;replace aD:=A_ (bb (g:=aC) (o:=.cells #[.int .i64 0,.int .i64 0,.string (⟨#[]⟩ : ByteArray)] 67 (0,0)) (by (with_reducible repeat (first | refine blk_drewN ?_ _ | refine blk_drew ?_ | refine ba ?_ _));refine blk_far ?_ aB.out _;(with_reducible repeat (first | refine blk_drewN ?_ _ | refine blk_drew ?_ | refine ba ?_ _));refine blk_far ?_ aB.out _;(with_reducible repeat (first | refine blk_drewN ?_ _ | refine blk_drew ?_ | refine ba ?_ _));refine blk_far ?_ aB.out _;(with_reducible repeat (first | refine blk_drewN ?_ _ | refine blk_drew ?_ | refine ba ?_ _));exact aD.out) hb);replace aI:=A_ (bb (g:=aA) (o:=.cells #[.int .i64 aJ,.int .i64 aK,.string aL] 67 (0,0)) (bp0 aI.out) hb);replace HK:=A_ (kt (Z4 aE.out aR.out) (kb hb g none) (.inl rfl));replace HB:=A_ (bst Z50 hb);replace HI0:=A_ (IsS52.below (show IsS52 w0 (((w7.setCell ⟨aA,0,none⟩ (.int .i64 aJ)).setCell ⟨aA,1,none⟩ (.int .i64 aK)).setCell ⟨aA,2,none⟩ (.string aL)) g aF aP aQ from Z49) hb);(try clear hb);obtain ⟨aZ,a0,a2,a3,a4,a5⟩:=C3 aI.out;have bR:=aG.out;have bT:=NB0_224.out;obtain ⟨a6,a7,a8,a9,bA,bB⟩:=C3 aD.out))
  refine bodyPost_ret (results_cell_row rfl _ _ aC 67 #[.int .i64 aJ,.int .i64 aK,.string aL] (0,0) _ rfl (bp0 aD.out) Try.underlying67 rfl (by kernel_rfl)) rfl ?_
  exact ⟨Z12,Z49,Z50,Z4 aE.out aR.out⟩
 ·replace c4:=Bool.eq_false_iff.mpr c4
  subst c4;rw [if_neg (show ¬ (false = true) by decide)] at H;simp only [Option.some.injEq,Prod.mk.injEq] at H;obtain ⟨rfl,rfl,rfl,rfl,rfl⟩:=H
  go_enter Try.func31,Try.ntmps31
  go_wp2_with (first | ((with_reducible refine gate_dst (N:=2) rfl ?_);refine be (cs:=#[.int .i64 0,.int .i64 0,.string (⟨#[]⟩ : ByteArray)]) (t:=67) ?_;intro aC hg b7 hbox hb;replace HB:=A_ (bst (Z10 HI0.out) hb);have aD:=A_ hbox;have aE:=A_ ((by rw [hg];exact (keep_size (w:=w) (g:=g) (row:=none) Z5) : w.heap.size ≤ aC));have GE224:=A_ ((Nat.le_trans aS.out (by rw [hg];exact (keep_size (w:=w) (g:=g) (row:=none) Z5) : w.heap.size ≤ aC) : w0.heap.size ≤ aC));replace HK:=A_ (kt Z5 (kb hb g none) (.inl rfl));have NB0_224:=A_ ((by rw [hg];exact nl (IsS52.lt (show IsS52 w0 _ g aF aN aO from (Z7 HI0.out))) : g ≠ aC));have aG:=A_ ((by rw [hg];exact Nat.ne_of_gt (IsS52.lt (show IsS52 w0 _ g aF aN aO from (Z7 HI0.out))) : aC ≠ g));replace HI0:=A_ (IsS52.below (Z7 HI0.out) hb);clear hb hbox hg) | ((with_reducible refine gate_callee (f:=45) rfl ?_);refine gL 5 Try.func45 #[.pointer (some ⟨g,0,none⟩)] ?_;(with_reducible refine (spec_source_value.calls k g aF aN aO aJ aK aL aP aQ w0 _ ?s1 ?s2 A2.out).mono ?_);(case s1 => exact Z13 HI0.out NB0_224.out);(case s2 => exact Z19 HI0.out GE224.out);rintro e b8 ⟨rfl,hi,hb,hk⟩;refine ⟨_,rfl,?_⟩;replace aD:=A_ (kB_ hk aG.out aD.out);replace HK:=A_ (kt (Z16 aE.out) hk (.inl rfl));replace HB:=A_ hb;replace HI0:=A_ hi;(try clear hb)) | ((with_reducible refine gate_dst (N:=3) rfl ?_);refine be (cs:=#[.int .i64 0,.int .i64 0,.string (⟨#[]⟩ : ByteArray)]) (t:=67) ?_;intro aA hg b5 hbox hb;replace HB:=A_ (bst (Z19 HI0.out GE224.out) hb);have aI:=A_ hbox;have aR:=A_ ((by rw [hg];exact (keep_size (w:=w) (g:=g) (row:=none) (Z16 aE.out)) : w.heap.size ≤ aA));have GE230:=A_ ((Nat.le_trans aS.out (by rw [hg];exact (keep_size (w:=w) (g:=g) (row:=none) (Z16 aE.out)) : w.heap.size ≤ aA) : w0.heap.size ≤ aA));replace HK:=A_ (kt (Z16 aE.out) (kb hb g none) (.inl rfl));have aB:=A_ ((by rw [hg];exact nl (blk_lt (Z1 aD.out)) : aC ≠ aA));have aH:=A_ ((by rw [hg];exact Nat.ne_of_gt (blk_lt (Z1 aD.out)) : aA ≠ aC));replace aD:=A_ (bb (Z1 aD.out) hb);have NB0_230:=A_ ((by rw [hg];exact nl (IsS52.lt (show IsS52 w0 _ g aF aP aQ from (Z13 HI0.out NB0_224.out))) : g ≠ aA));have aM:=A_ ((by rw [hg];exact Nat.ne_of_gt (IsS52.lt (show IsS52 w0 _ g aF aP aQ from (Z13 HI0.out NB0_224.out))) : aA ≠ g));replace HI0:=A_ (IsS52.below (Z13 HI0.out NB0_224.out) hb);clear hb hbox hg;have bU:=aH.out;have bV:=aB.out;have bW:=aM.out;have bX:=NB0_230.out;obtain ⟨bC,bD,bE,bF,bG,bH⟩:=C3 aI.out) | ((with_reducible refine gate_callee (f:=39) rfl ?_);refine gL 7 Try.func39 #[.agg #[.int .i64 aJ,.int .i64 aK,.string aL]] ?_;(with_reducible refine (spec_validValue.calls k aJ aK aL false _ A3.out).mono ?_);rintro e b9 ⟨rfl,hb⟩;refine ⟨_,rfl,?_⟩;replace aD:=A_ (bb (g:=aC) (o:=.cells #[.int .i64 0,.int .i64 0,.string (⟨#[]⟩ : ByteArray)] 67 (0,0)) (by (with_reducible repeat (first | refine blk_drewN ?_ _ | refine blk_drew ?_ | refine ba ?_ _));refine blk_far ?_ aB.out _;(with_reducible repeat (first | refine blk_drewN ?_ _ | refine blk_drew ?_ | refine ba ?_ _));refine blk_far ?_ aB.out _;(with_reducible repeat (first | refine blk_drewN ?_ _ | refine blk_drew ?_ | refine ba ?_ _));refine blk_far ?_ aB.out _;(with_reducible repeat (first | refine blk_drewN ?_ _ | refine blk_drew ?_ | refine ba ?_ _));exact aD.out) hb);replace aI:=A_ (bb (g:=aA) (o:=.cells #[.int .i64 aJ,.int .i64 aK,.string aL] 67 (0,0)) (bp0 aI.out) hb);replace HK:=A_ (kt (Z4 aE.out aR.out) (kb hb g none) (.inl rfl));replace HB:=A_ (bst Z50 hb);replace HI0:=A_ (IsS52.below (show IsS52 w0 (((b5.setCell ⟨aA,0,none⟩ (.int .i64 aJ)).setCell ⟨aA,1,none⟩ (.int .i64 aK)).setCell ⟨aA,2,none⟩ (.string aL)) g aF aP aQ from Z49) hb);(try clear hb);have bY:=aG.out;have bZ:=NB0_224.out;obtain ⟨bI,bJ,bK,bL,bM,bN⟩:=C3 aD.out))
  refine bodyPost_ret (results_cell_row rfl _ _ aC 67 #[.int .i64 1,.int .i64 2,.string (⟨#[]⟩ : ByteArray)] (0,0) _ rfl (bp0 aD.out) Try.underlying67 rfl (by kernel_rfl)) rfl ?_
  exact ⟨Z12,Z49,Z50,Z4 aE.out aR.out⟩
def spec_source_goods.l0 : Nat → Int → List (S67) → List Int → Int → Int → Option ((List (S67)) × Int × Int)
 | 0,_,_,_,_,_ => none
 | k + 1,x1,x5,aB,aC,aD => if x1 > 0 then ((spec_source_good.f k aB aC aD).bind fun aA => (if x5.length < 4398046511104 then (spec_source_goods.l0 k (wrap64 (x1 - 1)) (x5 ++ [(⟨aA.1,aA.2.1,aA.2.2.1⟩ : S67)]) aB aA.2.2.2.1 aA.2.2.2.2) else (none))) else (some (x5,aC,aD))
def spec_source_goods.f (k : Nat) (aA : List Int) (aB : Int) (aC : Int) (a1 : Int) : Option ((List (S67)) × Int × Int):=spec_source_goods.l0 k a1 (([] : List (S67))) aA aB aC
theorem spec_source_goods.calls (k : Nat) (g : Nat) (aC : List Int) (aN : Int) (aQ : Int) (a1 : Int) (r1 : List (S67)) (r2 : Int) (r3 : Int) (w0 w : World) (hI : IsS52 w0 w g aC aN aQ) (hB : Below w0.heap.size w0 w) (h : spec_source_goods.f k aC aN aQ a1 = some (r1,r2,r3)) :
  Calls Try.prog 20 #[.pointer (some ⟨g,0,none⟩),.int .i64 a1] w fun e w' => ∃ a4 : Value,e = .returned (a4) ∧ Kd.R k67 67 w' w.heap.size (fun _ => True) a4 r1 ∧ IsS52 w0 w' g aC r2 r3 ∧ Below w0.heap.size w0 w' ∧ KeepBut w w' g none:=by
 have HI0:=A_ hI;have HK:=A_ (KeepBut.refl w g none);have HL:=A_ hB.size;clear hI;have a9:=A_ hB.size;have HB:=A_ hB;clear hB;have H:=h;unfold spec_source_goods.f at H;clear h;obtain ⟨aT,aI⟩ : ∃ y_ : List (S67),y_ = (([] : List (S67))):=⟨_,rfl⟩;replace H : (spec_source_goods.l0 k a1 aT aC aN aQ) = some (r1,r2,r3):=yH aI;have aR:=A_ aI;clear aI;have H':=A_ H;clear H
 go_enter Try.func20,Try.ntmps20
 go_wp2_with (first | ((with_reducible refine gate_dst (N:=6) rfl ?_);refine Kd.R_lit k67 _ 67 ?hg (N:=6) ?hd (xs:=([] : List (S67))) (inner:=[]) (ok:=fun _ => True) (okp:=fun _ => True) ?hr ?hp (fun _ hk => hk) trivial (Below.refl _ _) (Nat.le_refl _) (by simp) ?_;(case hd => rfl);(case hg => rfl);(case hr => exact Z51);(case hp => exact (Reps.none _ _));intro a7 w3 aU hb hg_ hnew_;clear hg_ hnew_;(first | rw [← aR.out] at aU | (simp only [Int.reduceToNat] at aU;rw [← aR.out] at aU));have aV:=A_ (Kd.R_lower aU (keep_size (w:=w) (g:=g) (row:=none) Z5));replace HK:=A_ (kt Z5 (kb hb g none) (.inl rfl));replace HB:=A_ (bst (Z10 HI0.out) hb);replace HI0:=A_ (IsS52.below (Z7 HI0.out) hb);clear hb aU))
 go_loopg [1,5] k (fun kq v1 v5 w' => ∃ (aD : Int) (aH : List (S67)) (aA : Int) (aB : Int),v1 = .int .i64 aD ∧ Aside0 (spec_source_goods.l0 kq aD aH aC aA aB = some (r1,r2,r3)) ∧ Aside0 (kq ≤ k) ∧ Aside0 (Kd.R k67 67 w' w.heap.size (fun _ => True) v5 aH) ∧ Aside0 (IsS52 w0 w' g aC aA aB) ∧ Aside0 (KeepBut w w' g none) ∧ Aside0 (Below w0.heap.size w0 w'))
 case atStart => exact ⟨(a1),(aT),(aN),(aQ),Z22,H',⟨Nat.le_refl _⟩,⟨Z17 aV.out⟩,⟨Z7 HI0.out⟩,⟨Z5⟩,⟨Z10 HI0.out⟩⟩
 case round =>
  clear H';obtain ⟨aD,aH,aA,aB,rfl,HA,a5,aE,HI0,HK,HB⟩:=hrel
  cases gk with
  | zero => exact absurd HA.out (by simp [spec_source_goods.l0])
  | succ k1 =>
   have H:=HA.out;clear HA;simp only [spec_source_goods.l0] at H
   by_cases c5 : aD > 0
   ·rw [if_pos c5] at H
    have a0 : decide (0 < aD) = true:=dt c5;clear c5;replace H:=bS H;obtain ⟨⟨aJ,aK,aM,aW,aX⟩,a6,H⟩:=H
    try dsimp only at H
    have A6:=A_ a6;clear a6
    by_cases c7 : aH.length < 4398046511104
    ·rw [if_pos c7] at H
     have a2:=A_ c7;clear c7;obtain ⟨a3,aG⟩ : ∃ y_ : List (S67),y_ = (aH ++ [(⟨aJ,aK,aM⟩ : S67)]):=⟨_,rfl⟩
     first | rw [← aG,Option.bind_some] at H | rw [← aG] at H
     have aY:=A_ aG;clear aG;have H':=A_ H;clear H
     go_wp2_with (first | ((with_reducible refine gate_callee (f:=31) rfl ?_);refine gL 13 Try.func31 #[.pointer (some ⟨g,0,none⟩)] ?_;(with_reducible refine (spec_source_good.calls k1 g aC aA aB aJ aK aM aW aX w0 _ ?s1 ?s2 A6.out).mono ?_);(case s1 => exact Z7 HI0.out);(case s2 => exact Z10 HI0.out);rintro e w8 ⟨rfl,hi,hb,hk⟩;refine ⟨_,rfl,?_⟩;replace aE:=A_ (Rm (Kd.R_keep (IsS52.apart (show IsS52 w0 _ g aC aA aB from (Z7 HI0.out)) (Z17 aE.out) (by decide)) hk (fun _ h => h.2)) (fun _ h => h.1));replace HK:=A_ (kt Z5 hk (.inl rfl));replace HB:=A_ hb;replace HI0:=A_ hi;(try clear hb)) | ((with_reducible refine gate_builtin (b:=.append) (xs:=#[.tmp 11,.tmp 14]) rfl ?_);at_builtin;refine Kd.R_append k67 w.heap.size rfl (.tmp 11) (.tmp 14) 39 67 (.agg #[(.int .i64 0),(.int .i64 0),(.string ⟨#[]⟩)]) 32 rfl Try.underlying39 info67 rfl (by decide) (by omega) u5 aH (⟨aJ,aK,aM⟩ : S67) [.int .i64 aJ,.int .i64 aK,.string aM] (fun _ => True) (fun _ => False) rfl rfl ?aP (fun _ hk => hk.elim) ?aF ?aO (Below.refl _ _) ?aS ?aL ?_;(case aP => exact k67_mkM _ _ _ (⟨aJ,aK,aM⟩ : S67));(case aF => exact (fun _ _ => trivial));(case aO => exact (Z17 aE.out));(case aS => exact (keep_size (w:=w) (g:=g) (row:=none) Z5));(case aL => have:=a2.out;omega);intro a8 w9 ho hb hg hat;rw [← aY.out] at ho;replace HB:=A_ (below_weaken (Z10 HI0.out) HL.out hb);replace HI0:=A_ (IsS52.grown (Z7 HI0.out) hg (IsS52.own_ne HI0.out aE.out (by decide)));replace HK:=A_ (kt Z5 (KeepBut.of_grown hg g) (Kd.R_base2 aE.out));have aZ:=A_ ho;clear aE;clear ho hb hg hat))
     go_roundg k1
     case measure => have:=a5.out;omega
     case rel => exact ⟨(wrap64 (aD - 1)),(a3),(aW),(aX),Z22,H',⟨by have:=a5.out;omega⟩,⟨Z17 aZ.out⟩,⟨Z7 HI0.out⟩,⟨Z5⟩,⟨Z10 HI0.out⟩⟩
    ·rw [if_neg c7] at H
     exact absurd H (by simp)
   ·rw [if_neg c5] at H
    have a0 : decide (0 < aD) = false:=df c5;clear c5;simp only [Option.some.injEq,Prod.mk.injEq] at H;obtain ⟨rfl,rfl,rfl⟩:=H
    go_wp2
    go_ret
    exact ⟨_,Z12,Z17 aE.out,Z7 HI0.out,Z10 HI0.out,Z5⟩
def spec_source_leaf.j0 : Nat → Int → Int → Int → Int → Bool → List Int → Int → Int → Option (Int × Int × Int × Int × ByteArray × Int × Int)
 | 0,_,_,_,_,_,_,_,_ => none
 | k + 1,x1,x2,x3,aL,aM,aA,aB,aC => if aM = true then (if x2 > 0 then ((spec_source_pick.f k aA aB aC x2).bind fun aH => (some (2,aH.1,0,0,(⟨#[]⟩ : ByteArray),aH.2.1,aH.2.2))) else ((spec_source_good.f k aA aB aC).bind fun aD => (some (0,0,aD.1,aD.2.1,aD.2.2.1,aD.2.2.2.1,aD.2.2.2.2)))) else (if aL = 2 then (if x1 > 0 then ((spec_source_pick.f k aA aB aC x1).bind fun aI => (some (1,aI.1,0,0,(⟨#[]⟩ : ByteArray),aI.2.1,aI.2.2))) else ((spec_source_good.f k aA aB aC).bind fun aE => (some (0,0,aE.1,aE.2.1,aE.2.2.1,aE.2.2.2.1,aE.2.2.2.2)))) else (if aL = 3 then (if x3 > 0 then ((spec_source_pick.f k aA aB aC x3).bind fun aJ => (some (3,aJ.1,0,0,(⟨#[]⟩ : ByteArray),aJ.2.1,aJ.2.2))) else ((spec_source_good.f k aA aB aC).bind fun aF => (some (0,0,aF.1,aF.2.1,aF.2.2.1,aF.2.2.2.1,aF.2.2.2.2)))) else (if aL = 4 then ((spec_source_pick.f k aA aB aC 2).bind fun aK => (some (4,aK.1,0,0,(⟨#[]⟩ : ByteArray),aK.2.1,aK.2.2))) else ((spec_source_good.f k aA aB aC).bind fun aG => (some (0,0,aG.1,aG.2.1,aG.2.2.1,aG.2.2.2.1,aG.2.2.2.2))))))
def spec_source_leaf.f (k : Nat) (aB : List Int) (aC : Int) (aD : Int) (a1 : Int) (a2 : Int) (a3 : Int) : Option (Int × Int × Int × Int × ByteArray × Int × Int):=(spec_source_pick.f k aB aC aD 7).bind fun aA => (if aA.1 = 0 then (spec_source_leaf.j0 k a1 a2 a3 aA.1 (aA.1 == 0) aB aA.2.1 aA.2.2) else (spec_source_leaf.j0 k a1 a2 a3 aA.1 (aA.1 == 1) aB aA.2.1 aA.2.2))
theorem spec_source_leaf.mono_l : ∀ k,(∀ y0 y1 y2 y3 y4 y5 y6 y7,LeO (spec_source_leaf.j0 k y0 y1 y2 y3 y4 y5 y6 y7) (spec_source_leaf.j0 (k + 1) y0 y1 y2 y3 y4 y5 y6 y7))
 | 0 => fun _ _ _ _ _ _ _ _ r h => by simp [spec_source_leaf.j0] at h
 | k + 1 => by
  have aA:=spec_source_leaf.mono_l k
  ·intro y0 y1 y2 y3 y4 y5 y6 y7
   unfold spec_source_leaf.j0
   repeat' first
   | (with_reducible exact aA _ _ _ _ _ _ _ _)
   | (with_reducible exact spec_source_good.mono _ _ _ _)
   | (with_reducible exact spec_source_pick.mono _ _ _ _ _)
   | (with_reducible exact LeO.refl _)
   | (with_reducible exact LeO.none _)
   | (with_reducible refine LeO.ite ?_ ?_)
   | (with_reducible refine LeO.bind ?_ (fun _ => ?_))
   | exact aA _ _ _ _ _ _ _ _
   | exact spec_source_good.mono _ _ _ _
   | exact spec_source_pick.mono _ _ _ _ _
   | exact LeO.none _
   | refine LeO.ite ?_ ?_
   | refine LeO.bind ?_ (fun _ => ?_)
theorem spec_source_leaf.mono : ∀ a0 a1 a2 a3 a4 a5 k,LeO (spec_source_leaf.f k a0 a1 a2 a3 a4 a5) (spec_source_leaf.f (k + 1) a0 a1 a2 a3 a4 a5):=by
 intro a0 a1 a2 a3 a4 a5 k
 have aA:=spec_source_leaf.mono_l k;unfold spec_source_leaf.f
 repeat' first
   | (with_reducible exact aA _ _ _ _ _ _ _ _)
   | (with_reducible exact spec_source_good.mono _ _ _ _)
   | (with_reducible exact spec_source_pick.mono _ _ _ _ _)
   | (with_reducible exact LeO.refl _)
   | (with_reducible exact LeO.none _)
   | (with_reducible refine LeO.ite ?_ ?_)
   | (with_reducible refine LeO.bind ?_ (fun _ => ?_))
   | exact aA _ _ _ _ _ _ _ _
   | exact spec_source_good.mono _ _ _ _
   | exact spec_source_pick.mono _ _ _ _ _
   | exact LeO.none _
   | refine LeO.ite ?_ ?_
   | refine LeO.bind ?_ (fun _ => ?_)
theorem spec_source_leaf.calls (k : Nat) (g : Nat) (aH : List Int) (aL : Int) (aM : Int) (a1 : Int) (a2 : Int) (a3 : Int) (r1 : Int) (r2 : Int) (r3 : Int) (r4 : Int) (r5 : ByteArray) (r6 : Int) (r7 : Int) (w0 w : World) (hI : IsS52 w0 w g aH aL aM) (hB : Below w0.heap.size w0 w) (h : spec_source_leaf.f k aH aL aM a1 a2 a3 = some (r1,r2,r3,r4,r5,r6,r7)) :
  Calls Try.prog 32 #[.pointer (some ⟨g,0,none⟩),.int .i64 a1,.int .i64 a2,.int .i64 a3] w fun e w' => e = .returned (.agg #[.int .i64 r1,.int .i64 r2,.int .i64 r3,.int .i64 r4,.string r5]) ∧ IsS52 w0 w' g aH r6 r7 ∧ Below w0.heap.size w0 w' ∧ KeepBut w w' g none:=by
 have fD:=Try.underlying70;have HI0:=A_ hI;have HK:=A_ (KeepBut.refl w g none);have HL:=A_ hB.size;clear hI;have fE:=A_ hB.size;have HB:=A_ hB;clear hB;have H:=h;unfold spec_source_leaf.f at H;clear h;replace H:=bS H;obtain ⟨⟨aG,aI,aJ⟩,eW,H⟩:=H
 try dsimp only at H
 have A5:=A_ eW;clear eW;have eE:=A_ H;clear H
 go_enter Try.func32,Try.ntmps32
 go_upto_if 11 with (first | ((with_reducible refine gate_dst (N:=8) rfl ?_);refine be (cs:=#[.int .i64 0,.int .i64 0,.int .i64 0,.int .i64 0,.string (⟨#[]⟩ : ByteArray)]) (t:=70) ?_;intro aD hg w7 hbox hb;replace HB:=A_ (bst (Z10 HI0.out) hb);have aB:=A_ hbox;have aE:=A_ ((by rw [hg];exact (keep_size (w:=w) (g:=g) (row:=none) Z5) : w.heap.size ≤ aD));have aF:=A_ ((Nat.le_trans fE.out (by rw [hg];exact (keep_size (w:=w) (g:=g) (row:=none) Z5) : w.heap.size ≤ aD) : w0.heap.size ≤ aD));replace HK:=A_ (kt Z5 (kb hb g none) (.inl rfl));have aA:=A_ ((by rw [hg];exact nl (IsS52.lt (show IsS52 w0 _ g aH aL aM from (Z7 HI0.out))) : g ≠ aD));have aC:=A_ ((by rw [hg];exact Nat.ne_of_gt (IsS52.lt (show IsS52 w0 _ g aH aL aM from (Z7 HI0.out))) : aD ≠ g));replace HI0:=A_ (IsS52.below (Z7 HI0.out) hb);clear hb hbox hg) | ((with_reducible refine gate_callee (f:=12) rfl ?_);refine gL 10 Try.func12 #[.pointer (some ⟨g,0,none⟩),.int .i64 7] ?_;(with_reducible refine (spec_source_pick.calls k g aH aL aM 7 aG aI aJ w0 _ ?s1 ?s2 A5.out).mono ?_);(case s1 => exact Z13 HI0.out aA.out);(case s2 => exact Z19 HI0.out aF.out);rintro e w8 ⟨rfl,hi,hb,hk⟩;refine ⟨_,rfl,?_⟩;replace aB:=A_ (kB_ hk aC.out aB.out);replace HK:=A_ (kt (Z16 aE.out) hk (.inl rfl));replace HB:=A_ hb;replace HI0:=A_ hi;(try clear hb)))
 (try simp only [Act.put,List.setIfInBounds_toArray,List.set_cons_zero,List.set_cons_succ])
 go_cut [11] (fun fF wc => ∃ (kq : Nat) (aK : Bool),fF = .bool aK ∧ Aside0 (spec_source_leaf.j0 kq a1 a2 a3 aG aK aH aI aJ = some (r1,r2,r3,r4,r5,r6,r7)) ∧ Aside0 (kq ≤ k) ∧ Aside0 (wc.heap[aD]? = some (.cells #[.int .i64 0,.int .i64 0,.int .i64 0,.int .i64 0,.string (⟨#[]⟩ : ByteArray)] 70 (0,0))) ∧ Aside0 (IsS52 w0 wc g aH aI aJ) ∧ Aside0 (KeepBut w wc g none) ∧ Aside0 (Below w0.heap.size w0 wc))
 case first =>
  have H:=eE.out;clear eE
  by_cases c9 : aG = 0
  ·rw [if_pos c9] at H
   have aN:=e_t c9;have eF:=n_f c9;clear c9;(first | rw [aN] | (simp only [i64_w,i32_w];rw [aN]) | skip);have H':=A_ H;clear H
   go_wp2
   go_meet
   case rel => exact ⟨_,((aG == 0)),Z22,H',⟨Z47⟩,⟨Z1 aB.out⟩,⟨Z13 HI0.out aA.out⟩,⟨Z16 aE.out⟩,⟨Z19 HI0.out aF.out⟩⟩
  ·rw [if_neg c9] at H
   have aN:=e_f c9;have eF:=n_t c9;(first | rw [aN] | (simp only [i64_w,i32_w];rw [aN]) | skip);have H':=A_ H;clear H
   go_wp2
   go_meet
   case rel => exact ⟨_,((aG == 1)),Z22,H',⟨Z47⟩,⟨Z1 aB.out⟩,⟨Z13 HI0.out aA.out⟩,⟨Z16 aE.out⟩,⟨Z19 HI0.out aF.out⟩⟩
 case rest =>
  clear eE;obtain ⟨kq,aK,rfl,HA,fO,aB,HI0,HK,HB⟩:=hcut
  cases kq with
  | zero => exact absurd HA.out (by simp [spec_source_leaf.j0])
  | succ aO =>
   have H:=HA.out;clear HA;simp only [spec_source_leaf.j0] at H
   by_cases c10 : aK = true
   ·subst c10
    rw [if_pos rfl] at H
    by_cases aS : a2 > 0
    ·rw [if_pos aS] at H
     have aV : decide (0 < a2) = true:=dt aS;clear aS;replace H:=bS H;obtain ⟨⟨aW,eG,eH⟩,aX,H⟩:=H
     try dsimp only at H
     have fG:=A_ aX;clear aX;simp only [Option.some.injEq,Prod.mk.injEq] at H;obtain ⟨rfl,rfl,rfl,rfl,rfl,rfl,rfl⟩:=H
     go_wp2_with (first | ((with_reducible refine gate_callee (f:=12) rfl ?_);refine gL 18 Try.func12 #[.pointer (some ⟨g,0,none⟩),.int .i64 a2] ?_;(with_reducible refine (spec_source_pick.calls aO g aH aI aJ a2 aW eG eH w0 _ ?s1 ?s2 fG.out).mono ?_);(case s1 => exact Z13 HI0.out aA.out);(case s2 => exact Z19 HI0.out aF.out);rintro e fP ⟨rfl,hi,hb,hk⟩;refine ⟨_,rfl,?_⟩;replace aB:=A_ (kB_ hk aC.out aB.out);replace HK:=A_ (kt (Z16 aE.out) hk (.inl rfl));replace HB:=A_ hb;replace HI0:=A_ hi;(try clear hb);have eX:=aC.out;have eY:=aA.out;obtain ⟨bW,bX,bY,bZ,b0,b1,b2,b3,b4,b5⟩:=C5 aB.out))
     refine bodyPost_ret (results_cell_row rfl _ _ aD 70 #[.int .i64 2,.int .i64 aW,.int .i64 0,.int .i64 0,.string (⟨#[]⟩ : ByteArray)] (0,0) _ rfl (bp0 aB.out) Try.underlying70 rfl (by kernel_rfl)) rfl ?_
     exact ⟨Z12,Z13 HI0.out aA.out,Z19 HI0.out aF.out,Z16 aE.out⟩
    ·rw [if_neg aS] at H
     have aV : decide (0 < a2) = false:=df aS;clear aS;replace H:=bS H;obtain ⟨⟨aY,aZ,a0,eI,eJ⟩,a4,H⟩:=H
     try dsimp only at H
     have fH:=A_ a4;clear a4;simp only [Option.some.injEq,Prod.mk.injEq] at H;obtain ⟨rfl,rfl,rfl,rfl,rfl,rfl,rfl⟩:=H
     go_wp2_with (first | ((with_reducible refine gate_callee (f:=31) rfl ?_);refine gL 42 Try.func31 #[.pointer (some ⟨g,0,none⟩)] ?_;(with_reducible refine (spec_source_good.calls aO g aH aI aJ aY aZ a0 eI eJ w0 _ ?s1 ?s2 fH.out).mono ?_);(case s1 => exact Z13 HI0.out aA.out);(case s2 => exact Z19 HI0.out aF.out);rintro e fQ ⟨rfl,hi,hb,hk⟩;refine ⟨_,rfl,?_⟩;replace aB:=A_ (kB_ hk aC.out aB.out);replace HK:=A_ (kt (Z16 aE.out) hk (.inl rfl));replace HB:=A_ hb;replace HI0:=A_ hi;(try clear hb);have eZ:=aC.out;have e0:=aA.out;obtain ⟨b6,b7,b8,b9,cA,cB,cC,cD,cE,cF⟩:=C5 aB.out))
     refine bodyPost_ret (results_cell_row rfl _ _ aD 70 #[.int .i64 0,.int .i64 0,.int .i64 aY,.int .i64 aZ,.string a0] (0,0) _ rfl (bp0 aB.out) Try.underlying70 rfl (by kernel_rfl)) rfl ?_
     exact ⟨Z12,Z13 HI0.out aA.out,Z19 HI0.out aF.out,Z16 aE.out⟩
   ·replace c10:=Bool.eq_false_iff.mpr c10
    subst c10;rw [if_neg (show ¬ (false = true) by decide)] at H
    by_cases aP : aG = 2
    ·rw [if_pos aP] at H
     have a5:=e_t aP;have a6:=n_f aP;clear aP
     by_cases aT : a1 > 0
     ·rw [if_pos aT] at H
      have a7 : decide (0 < a1) = true:=dt aT;clear aT;replace H:=bS H;obtain ⟨⟨a8,eK,eL⟩,a9,H⟩:=H
      try dsimp only at H
      have fI:=A_ a9;clear a9;simp only [Option.some.injEq,Prod.mk.injEq] at H;obtain ⟨rfl,rfl,rfl,rfl,rfl,rfl,rfl⟩:=H
      go_wp2_with (first | ((with_reducible refine gate_callee (f:=12) rfl ?_);refine gL 26 Try.func12 #[.pointer (some ⟨g,0,none⟩),.int .i64 a1] ?_;(with_reducible refine (spec_source_pick.calls aO g aH aI aJ a1 a8 eK eL w0 _ ?s1 ?s2 fI.out).mono ?_);(case s1 => exact Z13 HI0.out aA.out);(case s2 => exact Z19 HI0.out aF.out);rintro e fR ⟨rfl,hi,hb,hk⟩;refine ⟨_,rfl,?_⟩;replace aB:=A_ (kB_ hk aC.out aB.out);replace HK:=A_ (kt (Z16 aE.out) hk (.inl rfl));replace HB:=A_ hb;replace HI0:=A_ hi;(try clear hb);have e1:=aC.out;have e2:=aA.out;obtain ⟨cG,cH,cI,cJ,cK,cL,cM,cN,cO,cP⟩:=C5 aB.out))
      refine bodyPost_ret (results_cell_row rfl _ _ aD 70 #[.int .i64 1,.int .i64 a8,.int .i64 0,.int .i64 0,.string (⟨#[]⟩ : ByteArray)] (0,0) _ rfl (bp0 aB.out) Try.underlying70 rfl (by kernel_rfl)) rfl ?_
      exact ⟨Z12,Z13 HI0.out aA.out,Z19 HI0.out aF.out,Z16 aE.out⟩
     ·rw [if_neg aT] at H
      have a7 : decide (0 < a1) = false:=df aT;clear aT;replace H:=bS H;obtain ⟨⟨bA,bB,bC,eM,eN⟩,bD,H⟩:=H
      try dsimp only at H
      have fJ:=A_ bD;clear bD;simp only [Option.some.injEq,Prod.mk.injEq] at H;obtain ⟨rfl,rfl,rfl,rfl,rfl,rfl,rfl⟩:=H
      go_wp2_with (first | ((with_reducible refine gate_callee (f:=31) rfl ?_);refine gL 42 Try.func31 #[.pointer (some ⟨g,0,none⟩)] ?_;(with_reducible refine (spec_source_good.calls aO g aH aI aJ bA bB bC eM eN w0 _ ?s1 ?s2 fJ.out).mono ?_);(case s1 => exact Z13 HI0.out aA.out);(case s2 => exact Z19 HI0.out aF.out);rintro e fS ⟨rfl,hi,hb,hk⟩;refine ⟨_,rfl,?_⟩;replace aB:=A_ (kB_ hk aC.out aB.out);replace HK:=A_ (kt (Z16 aE.out) hk (.inl rfl));replace HB:=A_ hb;replace HI0:=A_ hi;(try clear hb);have e3:=aC.out;have e4:=aA.out;obtain ⟨cQ,cR,cS,cT,cU,cV,cW,cX,cY,cZ⟩:=C5 aB.out))
      refine bodyPost_ret (results_cell_row rfl _ _ aD 70 #[.int .i64 0,.int .i64 0,.int .i64 bA,.int .i64 bB,.string bC] (0,0) _ rfl (bp0 aB.out) Try.underlying70 rfl (by kernel_rfl)) rfl ?_
      exact ⟨Z12,Z13 HI0.out aA.out,Z19 HI0.out aF.out,Z16 aE.out⟩
    ·rw [if_neg aP] at H
     have a5:=e_f aP;have a6:=n_t aP
     by_cases aQ : aG = 3
     ·rw [if_pos aQ] at H
      have bE:=e_t aQ;have bF:=n_f aQ;clear aQ
      by_cases aU : a3 > 0
      ·rw [if_pos aU] at H
       have bG : decide (0 < a3) = true:=dt aU;clear aU;replace H:=bS H;obtain ⟨⟨bH,eO,eP⟩,bI,H⟩:=H
       try dsimp only at H
       have fK:=A_ bI;clear bI;simp only [Option.some.injEq,Prod.mk.injEq] at H;obtain ⟨rfl,rfl,rfl,rfl,rfl,rfl,rfl⟩:=H
       go_wp2_with (first | ((with_reducible refine gate_callee (f:=12) rfl ?_);refine gL 34 Try.func12 #[.pointer (some ⟨g,0,none⟩),.int .i64 a3] ?_;(with_reducible refine (spec_source_pick.calls aO g aH aI aJ a3 bH eO eP w0 _ ?s1 ?s2 fK.out).mono ?_);(case s1 => exact Z13 HI0.out aA.out);(case s2 => exact Z19 HI0.out aF.out);rintro e fT ⟨rfl,hi,hb,hk⟩;refine ⟨_,rfl,?_⟩;replace aB:=A_ (kB_ hk aC.out aB.out);replace HK:=A_ (kt (Z16 aE.out) hk (.inl rfl));replace HB:=A_ hb;replace HI0:=A_ hi;(try clear hb);have e5:=aC.out;have e6:=aA.out;obtain ⟨dA,dB,dC,dD,dE,dF,dG,dH,dI,dJ⟩:=C5 aB.out))
       refine bodyPost_ret (results_cell_row rfl _ _ aD 70 #[.int .i64 3,.int .i64 bH,.int .i64 0,.int .i64 0,.string (⟨#[]⟩ : ByteArray)] (0,0) _ rfl (bp0 aB.out) Try.underlying70 rfl (by kernel_rfl)) rfl ?_
       exact ⟨Z12,Z13 HI0.out aA.out,Z19 HI0.out aF.out,Z16 aE.out⟩
      ·rw [if_neg aU] at H
       have bG : decide (0 < a3) = false:=df aU;clear aU;replace H:=bS H;obtain ⟨⟨bJ,bK,bL,eQ,eR⟩,bM,H⟩:=H
       try dsimp only at H
       have fL:=A_ bM;clear bM;simp only [Option.some.injEq,Prod.mk.injEq] at H;obtain ⟨rfl,rfl,rfl,rfl,rfl,rfl,rfl⟩:=H
       go_wp2_with (first | ((with_reducible refine gate_callee (f:=31) rfl ?_);refine gL 42 Try.func31 #[.pointer (some ⟨g,0,none⟩)] ?_;(with_reducible refine (spec_source_good.calls aO g aH aI aJ bJ bK bL eQ eR w0 _ ?s1 ?s2 fL.out).mono ?_);(case s1 => exact Z13 HI0.out aA.out);(case s2 => exact Z19 HI0.out aF.out);rintro e fU ⟨rfl,hi,hb,hk⟩;refine ⟨_,rfl,?_⟩;replace aB:=A_ (kB_ hk aC.out aB.out);replace HK:=A_ (kt (Z16 aE.out) hk (.inl rfl));replace HB:=A_ hb;replace HI0:=A_ hi;(try clear hb);have e7:=aC.out;have e8:=aA.out;obtain ⟨dK,dL,dM,dN,dO,dP,dQ,dR,dS,dT⟩:=C5 aB.out))
       refine bodyPost_ret (results_cell_row rfl _ _ aD 70 #[.int .i64 0,.int .i64 0,.int .i64 bJ,.int .i64 bK,.string bL] (0,0) _ rfl (bp0 aB.out) Try.underlying70 rfl (by kernel_rfl)) rfl ?_
       exact ⟨Z12,Z13 HI0.out aA.out,Z19 HI0.out aF.out,Z16 aE.out⟩
     ·rw [if_neg aQ] at H
      have bE:=e_f aQ;have bF:=n_t aQ
      by_cases aR : aG = 4
      ·rw [if_pos aR] at H
       have bN:=e_t aR;have bO:=n_f aR;clear aR;replace H:=bS H;obtain ⟨⟨bP,eS,eT⟩,bQ,H⟩:=H
       try dsimp only at H
       have fM:=A_ bQ;clear bQ;simp only [Option.some.injEq,Prod.mk.injEq] at H;obtain ⟨rfl,rfl,rfl,rfl,rfl,rfl,rfl⟩:=H
       go_wp2_with (first | ((with_reducible refine gate_callee (f:=12) rfl ?_);refine gL 39 Try.func12 #[.pointer (some ⟨g,0,none⟩),.int .i64 2] ?_;(with_reducible refine (spec_source_pick.calls aO g aH aI aJ 2 bP eS eT w0 _ ?s1 ?s2 fM.out).mono ?_);(case s1 => exact Z13 HI0.out aA.out);(case s2 => exact Z19 HI0.out aF.out);rintro e fV ⟨rfl,hi,hb,hk⟩;refine ⟨_,rfl,?_⟩;replace aB:=A_ (kB_ hk aC.out aB.out);replace HK:=A_ (kt (Z16 aE.out) hk (.inl rfl));replace HB:=A_ hb;replace HI0:=A_ hi;(try clear hb);have e9:=aC.out;have fA:=aA.out;obtain ⟨dU,dV,dW,dX,dY,dZ,d0,d1,d2,d3⟩:=C5 aB.out))
       refine bodyPost_ret (results_cell_row rfl _ _ aD 70 #[.int .i64 4,.int .i64 bP,.int .i64 0,.int .i64 0,.string (⟨#[]⟩ : ByteArray)] (0,0) _ rfl (bp0 aB.out) Try.underlying70 rfl (by kernel_rfl)) rfl ?_
       exact ⟨Z12,Z13 HI0.out aA.out,Z19 HI0.out aF.out,Z16 aE.out⟩
      ·rw [if_neg aR] at H
       have bN:=e_f aR;have bO:=n_t aR;replace H:=bS H;obtain ⟨⟨bR,bT,bU,eU,eV⟩,bV,H⟩:=H
       try dsimp only at H
       have fN:=A_ bV;clear bV;simp only [Option.some.injEq,Prod.mk.injEq] at H;obtain ⟨rfl,rfl,rfl,rfl,rfl,rfl,rfl⟩:=H
       go_wp2_with (first | ((with_reducible refine gate_callee (f:=31) rfl ?_);refine gL 42 Try.func31 #[.pointer (some ⟨g,0,none⟩)] ?_;(with_reducible refine (spec_source_good.calls aO g aH aI aJ bR bT bU eU eV w0 _ ?s1 ?s2 fN.out).mono ?_);(case s1 => exact Z13 HI0.out aA.out);(case s2 => exact Z19 HI0.out aF.out);rintro e fW ⟨rfl,hi,hb,hk⟩;refine ⟨_,rfl,?_⟩;replace aB:=A_ (kB_ hk aC.out aB.out);replace HK:=A_ (kt (Z16 aE.out) hk (.inl rfl));replace HB:=A_ hb;replace HI0:=A_ hi;(try clear hb);have fB:=aC.out;have fC:=aA.out;obtain ⟨d4,d5,d6,d7,d8,d9,eA,eB,eC,eD⟩:=C5 aB.out))
       refine bodyPost_ret (results_cell_row rfl _ _ aD 70 #[.int .i64 0,.int .i64 0,.int .i64 bR,.int .i64 bT,.string bU] (0,0) _ rfl (bp0 aB.out) Try.underlying70 rfl (by kernel_rfl)) rfl ?_
       exact ⟨Z12,Z13 HI0.out aA.out,Z19 HI0.out aF.out,Z16 aE.out⟩
end Go.Proofs.Ytmgdjmeoljepgaa.PFnProgBelow
