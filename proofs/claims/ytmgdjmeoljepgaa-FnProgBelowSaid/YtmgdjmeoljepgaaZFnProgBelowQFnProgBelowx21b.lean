/- Walks (lines of the print; no condition). -/
import Derived.Test.YtmgdjmeoljepgaaZFnProgBelowQFnProgBelowx21a
namespace Go.Proofs.Ytmgdjmeoljepgaa.PFnProgBelow
open Go.RowKit Go.Proofs.YtmgdjmeoljepgaaW.PrintWords Go.Proofs.YtmgdjmeoljepgaaW.PrintLast Go.Proofs.YtmgdjmeoljepgaaW.PrintMore
attribute [local go_sem] max2_int min2_int max_two min_two max_three min_three max_four min_four
set_option linter.unusedVariables false
set_option linter.unusedSimpArgs false
set_option maxHeartbeats 8000000 in
set_option maxRecDepth 100000 in
def impl_tmplOk.S2 : {T : Prop // T → impl_tmplOk.S1.1}:=by
 apply @Subtype.mk _ _ _ ?h_
 case h_ =>
  intro mN_ c0 l0 a1 aI aO a9 bA aL bB bC aX bD bE aS b6 bF l2_5 bK bG aK a3 a4 r w k ih GY GZ G0 FB d2 FC mV mW k0 k1 b9 FD k2 FE Q0_ aJ HP gP GE954 e1 A955_1 c955_1 A955_2 c955_2 A955_5 c955_5 A955_6 c955_6 A955_7 c955_7 A955_8 c955_8 aT aU mU e2 e3 e4 e5 e6 e7 e8 e9 fA fB fC fD fE fF aF HQ _ gQ GE956 _ aD aG _ FH FI u70 CR a5 wc u21 u22 u23 u24 u25 u26 u27 u28 u29 u30 u31 u32 u33 u34 u35 u36 u37 u38 u39 u40 u41 u42 u43 u44 u45 u46 u47 u48 u49 u50 u51 u52 u53 u54 u55 u56 u57 u58 u59 u60 u61 u62 u63 u64 u65 u66 u67 u68 u69 u71 u74 u76 u77 u78 u79 u80 u81 u82 u83 u84 u88 u89 u90 u91 u92 u93 u94 u95 u96 u97 u98 u99 u100 u101 u102 u103 u104 u105 u106 u107 u108 u109 u110 u114 u115 u116 u117 u118 u119 u120 u121 u122 u123 u124 u125 u126 u127 u128 u129 u130 u131 u132 u133 u134 u135 u136 u137 u138 u139 u140 u141 u142 u143 u144 u145 u146 u147 u148 u150 u152 u153 u154 u155 u156 u157 u158 u159 u160 u161 u162 u163 u164 u165 u166 u167 u168 u169 u171 u172 u173 u174 u175 u176 u177 u178 u179 u180 u181 u182 u183 u184 u185 u186 u188 u189 u190 u191 u192 u193 u194 u195 u196 u197 u198 u199 u200 u201 u202 u203 u204 u205 u206 u207 u208 u209 u210 u211 u212 u213 u214 u215 u216 u217 u218 u219 u220 u224 u225 u226 u227 u228 u229 u230 u231 u232 u233 u234 u235 aB aA HB gR bH lS F4 F5 jE jF jG jH jI jJ jK jL jM jN jO jP jQ jR K2_ a2_
  go_cut [12,13,14] (fun G3 G4 G5 wc => ∃ (kq : Nat) (bR : Int) (dJ : Int) (dK : Int),G3 = .int .i64 bR ∧ G4 = .int .i64 dJ ∧ G5 = .int .i64 dK ∧ Aside0 (impl_tmplOk.j4 kq l0 a1 a3 a4 bR dJ dK aI aO aL aX aS l2_5 aK ((rd_T48 l0 a1).f0) ((rd_T48 l0 a1).f1) ((rd_T48 l0 a1).f2) ((rd_T48 l0 a1).f3.f0) ((rd_T48 l0 a1).f3.f1) ((rd_T48 l0 a1).f3.f2) ((rd_T48 l0 a1).f3.f3) ((rd_T48 l0 a1).f3.f4) ((rd_T48 l0 a1).f3.f5) ((rd_T48 l0 a1).f3.f6) = some r) ∧ Aside0 (kq ≤ gR) ∧ Aside0 (wc.heap[aJ]? = some (.cells #[.int .i64 aI,.int .i64 aO,(.slice a9 aL.length bA),(.slice bB aX.length bC),(.slice bD aS.length bE),(.slice b6 l2_5.length bF),(.slice bK aK.length bG)] 46 (0,0))) ∧ Aside0 (wc.heap[aF]? = some (.cells #[.int .i64 ((rd_T48 l0 a1).f0),(.slice A955_1 ((rd_T48 l0 a1).f1).length c955_1),(.slice A955_2 ((rd_T48 l0 a1).f2).length c955_2),.int .i64 ((rd_T48 l0 a1).f3.f0),.int .i64 ((rd_T48 l0 a1).f3.f1),(.slice A955_5 ((rd_T48 l0 a1).f3.f2).length c955_5),(.slice A955_6 ((rd_T48 l0 a1).f3.f3).length c955_6),(.slice A955_7 ((rd_T48 l0 a1).f3.f4).length c955_7),(.slice A955_8 ((rd_T48 l0 a1).f3.f5).length c955_8),(.slice aT ((rd_T48 l0 a1).f3.f6).length aU)] 48 (0,0))) ∧ Aside0 (Below w.heap.size w wc))
  case rest =>
   clear aB aA HB jE jF jG jH jI jJ jK jL jM jN jO jP jQ jR
   revert c0 l0 a1 aI aO a9 bA aL bB bC aX bD bE aS b6 bF l2_5 bK bG aK a3 a4 r w k ih GY GZ G0 FB d2 FC mV mW k0 k1 b9 FD k2 FE Q0_ aJ HP gP GE954 e1 A955_1 c955_1 A955_2 c955_2 A955_5 c955_5 A955_6 c955_6 A955_7 c955_7 A955_8 c955_8 aT aU mU e2 e3 e4 e5 e6 e7 e8 e9 fA fB fC fD fE fF aF HQ gQ GE956 aD aG FH FI CR a5 gR bH lS F4 F5 K2_ a2_ wc u10 u12 u13 u14 u15 u16 u17 u18 u21 u22 u23 u24 u25 u26 u27 u28 u29 u30 u31 u32 u33 u34 u35 u36 u37 u38 u39 u40 u41 u42 u43 u44 u45 u46 u47 u48 u49 u50 u51 u52 u53 u54 u55 u56 u57 u58 u59 u60 u61 u62 u63 u64 u65 u66 u67 u68 u69 u70 u71 u73 u74 u75 u76 u77 u78 u79 u80 u81 u82 u83 u84 u85 u86 u87 u88 u89 u90 u91 u92 u93 u94 u95 u96 u97 u98 u99 u100 u101 u102 u103 u104 u105 u106 u107 u108 u109 u110 u111 u112 u113 u114 u115 u116 u117 u118 u119 u120 u121 u122 u123 u124 u125 u126 u127 u128 u129 u130 u131 u132 u133 u134 u135 u136 u137 u138 u139 u140 u141 u142 u143 u144 u145 u146 u147 u148 u149 u150 u151 u152 u153 u154 u155 u156 u157 u158 u159 u160 u161 u162 u163 u164 u165 u166 u167 u168 u169 u170 u171 u172 u173 u174 u175 u176 u177 u178 u179 u180 u181 u182 u183 u184 u185 u186 u187 u188 u189 u190 u191 u192 u193 u194 u195 u196 u197 u198 u199 u200 u201 u202 u203 u204 u205 u206 u207 u208 u209 u210 u211 u212 u213 u214 u215 u216 u217 u218 u219 u220 u224 u225 u226 u227 u228 u229 u230 u231 u232 u233 u234 u235 hcut
   exact mN_
  case first =>
   clear mN_
   have H:=lS.out;clear lS
   by_cases k5 : aI = 0
   ·rw [if_pos k5] at H
    have d3:=e_t k5;have k7:=n_f k5;clear k5;(first | rw [d3] | (simp only [i64_w,i32_w];rw [d3]) | skip);have H':=A_ H;clear H
    go_wp2
    go_meet
    case rel => exact ⟨_,(1),(0),(0),Z22,Z22,Z22,H',⟨by have:=a5.out;have:=bH.out;first | omega | exact Nat.le_refl _⟩,⟨Z1 aB.out⟩,⟨Z1 aA.out⟩,⟨Z8 GE954.out GE956.out⟩⟩
   ·rw [if_neg k5] at H
    have d3:=e_f k5;have k7:=n_t k5;(first | rw [d3] | (simp only [i64_w,i32_w];rw [d3]) | skip)
    by_cases lT : aI = 1
    ·rw [if_pos lT] at H
     have k8:=e_t lT;have k9:=n_f lT;clear lT;replace H:=bS H;obtain ⟨CS,nC,H⟩:=H
     try dsimp only at H
     have F6:=A_ nC;clear nC
     by_cases AN : CS = true
     ·subst AN
      rw [if_pos rfl] at H;have H':=A_ H;clear H;have F7:=aD.out;have F8:=aG.out;obtain ⟨jS,jT,jU,jV,jW,jX,jY,jZ,j2,j3,j7,j8,j9,kA⟩:=C7 aB.out
      go_wp2_with (first | ((with_reducible refine gate_callee (f:=14) rfl ?_);refine gL 82 Try.func14 #[.int .i64 aO,.int .i64 0,.int .i64 4] ?_;(with_reducible refine (impl_within.calls aO 0 4 true _ F6.out).mono ?_);rintro e w' ⟨rfl,⟨nd,rfl⟩⟩;refine ⟨_,rfl,?_⟩))
      go_loopg [87] gR (fun kq G6 w' => ∃ (aP : Int),G6 = .int .i64 aP ∧ Aside0 (impl_tmplOk.l0 kq l0 a1 a3 a4 (aL.length : Int) 0 4 aL (aL.length : Int) aP aI aO aL aX aS l2_5 aK ((rd_T48 l0 a1).f0) ((rd_T48 l0 a1).f1) ((rd_T48 l0 a1).f2) ((rd_T48 l0 a1).f3.f0) ((rd_T48 l0 a1).f3.f1) ((rd_T48 l0 a1).f3.f2) ((rd_T48 l0 a1).f3.f3) ((rd_T48 l0 a1).f3.f4) ((rd_T48 l0 a1).f3.f5) ((rd_T48 l0 a1).f3.f6) = some r) ∧ Aside0 (kq ≤ gR) ∧ Aside0 (w'.heap[aJ]? = some (.cells #[.int .i64 aI,.int .i64 aO,(.slice a9 aL.length bA),(.slice bB aX.length bC),(.slice bD aS.length bE),(.slice b6 l2_5.length bF),(.slice bK aK.length bG)] 46 (0,0))) ∧ Aside0 (w'.heap[aF]? = some (.cells #[.int .i64 ((rd_T48 l0 a1).f0),(.slice A955_1 ((rd_T48 l0 a1).f1).length c955_1),(.slice A955_2 ((rd_T48 l0 a1).f2).length c955_2),.int .i64 ((rd_T48 l0 a1).f3.f0),.int .i64 ((rd_T48 l0 a1).f3.f1),(.slice A955_5 ((rd_T48 l0 a1).f3.f2).length c955_5),(.slice A955_6 ((rd_T48 l0 a1).f3.f3).length c955_6),(.slice A955_7 ((rd_T48 l0 a1).f3.f4).length c955_7),(.slice A955_8 ((rd_T48 l0 a1).f3.f5).length c955_8),(.slice aT ((rd_T48 l0 a1).f3.f6).length aU)] 48 (0,0))) ∧ Aside0 (Below w.heap.size w w'))
      case atStart => exact ⟨(0),Z22,H',⟨Nat.le_refl _⟩,⟨Z1 aB.out⟩,⟨Z1 aA.out⟩,⟨Z8 GE954.out GE956.out⟩⟩
      case round =>
       clear H' k5 d3 k7 k8 k9 jE jF jG jH jI jJ jK jS jT jU jV jW jX jY jL jM jN jO jP jQ jR jZ j2 j3 j7 j8 j9 kA;obtain ⟨aP,rfl,HA,HK3,aB,aA,HB⟩:=hrel
       cases gk with
       | zero => exact absurd HA.out (by simp [impl_tmplOk.l0])
       | succ k3 =>
        have H:=HA.out;clear HA;simp only [impl_tmplOk.l0] at H
        by_cases mO : aP < (aL.length : Int)
        ·rw [if_pos mO] at H
         have lA:=dt mO;clear mO
         by_cases AO : 0 ≤ aP
         ·rw [if_pos AO] at H
          have F9:=dt AO;clear AO
          by_cases AP : aP < (aL.length : Int)
          ·rw [if_pos AP] at H
           have GA:=dt AP;clear AP;replace H:=bS H;obtain ⟨CT,nD,H⟩:=H
           try dsimp only at H
           have nE:=A_ nD;clear nD
           by_cases AQ : CT = true
           ·subst AQ
            rw [if_pos rfl] at H
            by_cases mP : aP > 0
            ·rw [if_pos mP] at H
             have nF : decide (0 < aP) = true:=dt mP;clear mP;obtain ⟨d1,eN⟩ : ∃ j_ : Int,(wrap64 (aP - 1)) = j_:=⟨_,rfl⟩
             first | rw [eN] at H | simp only [eN] at H
             (try rw [eN] at nE);have CU : (IntKind.i64.wrap (aP - 1)) = d1:=(i64_w _).trans eN
             by_cases AR : 0 ≤ (d1)
             ·rw [if_pos AR] at H
              have GB:=dt AR;clear AR
              by_cases AS : (d1) < (aL.length : Int)
              ·rw [if_pos AS] at H
               have GC:=dt AS;clear AS
               by_cases mQ : (rd aL aP) ≤ (rd aL (d1))
               ·rw [if_pos mQ] at H
                have nG:=dt mQ;clear mQ;obtain rfl:=Option.some.inj H;have b7 : 0 ≤ (aP : Int):=odt;have b8 : aP < (aL.length : Int):=odt;obtain ⟨eO,eQ,a2⟩:=Kd.at_int d2.out aP b7 b8;cases eQ;replace a2:=ZC HB.out a2;replace b7:=eq_true b7;replace b8:=eq_true b8
                go_wp2_with (first | ((with_reducible refine gate_callee (f:=14) rfl ?_);refine gL 93 Try.func14 #[.int .i64 (rd aL aP),.int .i64 0,.int .i64 3] ?_;(with_reducible refine (impl_within.calls (rd aL aP) 0 3 true _ nE.out).mono ?_);rintro e w' ⟨rfl,⟨nd,rfl⟩⟩;refine ⟨_,rfl,?_⟩;have GD:=aD.out;have GE:=aG.out;obtain ⟨AT,AU,AV,AW,AX,AY,AZ,BA,BB,BC,BD,BE,BF,BG⟩:=C7 aB.out;have eR : 0 ≤ ((d1) : Int):=odt;have eS : (d1) < (aL.length : Int):=odt;obtain ⟨gS,lU,cO⟩:=Kd.at_int d2.out (d1) eR eS;obtain rfl : eO = gS:=(by injection lU);replace cO:=ZC HB.out cO;replace eR:=eq_true eR;replace eS:=eq_true eS))
                go_ret
                exact ⟨by first | rfl | (simp [errW_none,errW_some] <;> rfl) | (simp only [← eN];first | rfl | (simp [errW_none,errW_some] <;> rfl)) | (simp [*,errW_none,errW_some] <;> rfl),Z8 GE954.out GE956.out⟩
               ·rw [if_neg mQ] at H
                have nG:=df mQ;clear mQ;have H':=A_ H;clear H;have b7 : 0 ≤ (aP : Int):=odt;have b8 : aP < (aL.length : Int):=odt;obtain ⟨eO,eQ,a2⟩:=Kd.at_int d2.out aP b7 b8;cases eQ;replace a2:=ZC HB.out a2;replace b7:=eq_true b7;replace b8:=eq_true b8
                go_wp2_with (first | ((with_reducible refine gate_callee (f:=14) rfl ?_);refine gL 93 Try.func14 #[.int .i64 (rd aL aP),.int .i64 0,.int .i64 3] ?_;(with_reducible refine (impl_within.calls (rd aL aP) 0 3 true _ nE.out).mono ?_);rintro e w' ⟨rfl,⟨nd,rfl⟩⟩;refine ⟨_,rfl,?_⟩;have GF:=aD.out;have GG:=aG.out;obtain ⟨BH,BI,BJ,BK,BL,BM,BN,BO,BP,BQ,BR,BS,BT,BU⟩:=C7 aB.out;have eR : 0 ≤ ((d1) : Int):=odt;have eS : (d1) < (aL.length : Int):=odt;obtain ⟨gS,lU,cO⟩:=Kd.at_int d2.out (d1) eR eS;obtain rfl : eO = gS:=(by injection lU);replace cO:=ZC HB.out cO;replace eR:=eq_true eR;replace eS:=eq_true eS))
                go_roundg k3
                case measure => have:=a5.out;have:=bH.out;have:=HK3.out;omega
                case rel => exact ⟨(wrap64 (aP + 1)),Z22,H',⟨by have:=a5.out;have:=bH.out;have:=HK3.out;omega⟩,⟨Z1 aB.out⟩,⟨Z1 aA.out⟩,⟨Z8 GE954.out GE956.out⟩⟩
              ·rw [if_neg AS] at H
               exact absurd H (by simp)
             ·rw [if_neg AR] at H
              exact absurd H (by simp)
            ·rw [if_neg mP] at H
             have nF : decide (0 < aP) = false:=df mP;clear mP;have H':=A_ H;clear H;have b7 : 0 ≤ (aP : Int):=odt;have b8 : aP < (aL.length : Int):=odt;obtain ⟨eO,eQ,a2⟩:=Kd.at_int d2.out aP b7 b8;cases eQ;replace a2:=ZC HB.out a2;replace b7:=eq_true b7;replace b8:=eq_true b8
             go_wp2_with (first | ((with_reducible refine gate_callee (f:=14) rfl ?_);refine gL 93 Try.func14 #[.int .i64 (rd aL aP),.int .i64 0,.int .i64 3] ?_;(with_reducible refine (impl_within.calls (rd aL aP) 0 3 true _ nE.out).mono ?_);rintro e w' ⟨rfl,⟨nd,rfl⟩⟩;refine ⟨_,rfl,?_⟩))
             go_roundg k3
             case measure => have:=a5.out;have:=bH.out;have:=HK3.out;omega
             case rel => exact ⟨(wrap64 (aP + 1)),Z22,H',⟨by have:=a5.out;have:=bH.out;have:=HK3.out;omega⟩,⟨Z1 aB.out⟩,⟨Z1 aA.out⟩,⟨Z8 GE954.out GE956.out⟩⟩
           ·replace AQ:=Bool.eq_false_iff.mpr AQ
            subst AQ;rw [if_neg (show ¬ (false = true) by decide)] at H;obtain rfl:=Option.some.inj H;have b7 : 0 ≤ (aP : Int):=odt;have b8 : aP < (aL.length : Int):=odt;obtain ⟨eO,eQ,a2⟩:=Kd.at_int d2.out aP b7 b8;cases eQ;replace a2:=ZC HB.out a2;replace b7:=eq_true b7;replace b8:=eq_true b8
            go_wp2_with (first | ((with_reducible refine gate_callee (f:=14) rfl ?_);refine gL 93 Try.func14 #[.int .i64 (rd aL aP),.int .i64 0,.int .i64 3] ?_;(with_reducible refine (impl_within.calls (rd aL aP) 0 3 false _ nE.out).mono ?_);rintro e w' ⟨rfl,⟨nd,rfl⟩⟩;refine ⟨_,rfl,?_⟩))
            go_ret
            exact ⟨Z12,Z8 GE954.out GE956.out⟩
          ·rw [if_neg AP] at H
           exact absurd H (by simp)
         ·rw [if_neg AO] at H
          exact absurd H (by simp)
        ·rw [if_neg mO] at H
         have lA:=df mO;clear mO;have H':=A_ H;clear H;have GH:=aD.out;have GI:=aG.out;obtain ⟨kB,kC,kD,kE,kF,kG,kH,kI,kJ,kK,kL,kM,kN,kO⟩:=C7 aB.out
         go_wp2
         go_loopg [113] k3 (fun kq CV w' => ∃ (x113_4 : Int),CV = .int .i64 x113_4 ∧ Aside0 (impl_tmplOk.l1 kq l0 a1 a3 a4 (aL.length : Int) 0 4 l2_5 (l2_5.length : Int) x113_4 aI aO aL aX aS l2_5 aK ((rd_T48 l0 a1).f0) ((rd_T48 l0 a1).f1) ((rd_T48 l0 a1).f2) ((rd_T48 l0 a1).f3.f0) ((rd_T48 l0 a1).f3.f1) ((rd_T48 l0 a1).f3.f2) ((rd_T48 l0 a1).f3.f3) ((rd_T48 l0 a1).f3.f4) ((rd_T48 l0 a1).f3.f5) ((rd_T48 l0 a1).f3.f6) = some r) ∧ Aside0 (kq ≤ k3) ∧ Aside0 (w'.heap[aJ]? = some (.cells #[.int .i64 aI,.int .i64 aO,(.slice a9 aL.length bA),(.slice bB aX.length bC),(.slice bD aS.length bE),(.slice b6 l2_5.length bF),(.slice bK aK.length bG)] 46 (0,0))) ∧ Aside0 (w'.heap[aF]? = some (.cells #[.int .i64 ((rd_T48 l0 a1).f0),(.slice A955_1 ((rd_T48 l0 a1).f1).length c955_1),(.slice A955_2 ((rd_T48 l0 a1).f2).length c955_2),.int .i64 ((rd_T48 l0 a1).f3.f0),.int .i64 ((rd_T48 l0 a1).f3.f1),(.slice A955_5 ((rd_T48 l0 a1).f3.f2).length c955_5),(.slice A955_6 ((rd_T48 l0 a1).f3.f3).length c955_6),(.slice A955_7 ((rd_T48 l0 a1).f3.f4).length c955_7),(.slice A955_8 ((rd_T48 l0 a1).f3.f5).length c955_8),(.slice aT ((rd_T48 l0 a1).f3.f6).length aU)] 48 (0,0))) ∧ Aside0 (Below w.heap.size w w'))
         case atStart => exact ⟨(0),Z22,H',⟨Nat.le_refl _⟩,⟨Z1 aB.out⟩,⟨Z1 aA.out⟩,⟨Z8 GE954.out GE956.out⟩⟩
         case round =>
          clear H' lA kB kC kD kE kF kG kH kI kJ kK kL kM kN kO;obtain ⟨x113_4,rfl,HA,nH,aB,aA,HB⟩:=hrel
          cases gk with
          | zero => exact absurd HA.out (by simp [impl_tmplOk.l1])
          | succ k4 =>
           have H:=HA.out;clear HA;simp only [impl_tmplOk.l1] at H
           by_cases mR : x113_4 < (l2_5.length : Int)
           ·rw [if_pos mR] at H
            have nI:=dt mR;clear mR
            by_cases BV : 0 ≤ x113_4
            ·rw [if_pos BV] at H
             have GJ:=dt BV;clear BV
             by_cases BW : x113_4 < (l2_5.length : Int)
             ·rw [if_pos BW] at H
              have GK:=dt BW;clear BW;replace H:=bS H;obtain ⟨CW,nJ,H⟩:=H
              try dsimp only at H
              have lV:=A_ nJ;clear nJ
              by_cases BX : CW = true
              ·subst BX
               rw [if_pos rfl] at H
               by_cases mS : x113_4 > 0
               ·rw [if_pos mS] at H
                have nK : decide (0 < x113_4) = true:=dt mS;clear mS;obtain ⟨a6,d4⟩ : ∃ j_ : Int,(wrap64 (x113_4 - 1)) = j_:=⟨_,rfl⟩
                first | rw [d4] at H | simp only [d4] at H
                (try rw [d4] at lV);have CX : (IntKind.i64.wrap (x113_4 - 1)) = a6:=(i64_w _).trans d4
                by_cases BY : 0 ≤ (a6)
                ·rw [if_pos BY] at H
                 have GL:=dt BY;clear BY
                 by_cases BZ : (a6) < (l2_5.length : Int)
                 ·rw [if_pos BZ] at H
                  have GM:=dt BZ;clear BZ
                  by_cases mT : ((rd_T76 l2_5 x113_4).f0) ≤ ((rd_T76 l2_5 (a6)).f0)
                  ·rw [if_pos mT] at H
                   have nL:=dt mT;clear mT;obtain rfl:=Option.some.inj H;have bI : 0 ≤ (x113_4 : Int):=odt;have bJ : x113_4 < (l2_5.length : Int):=odt;obtain ⟨aY,dL,aQ,aR⟩:=at_T76 b9.out x113_4 bI bJ;cases dL;replace aQ:=ZC HB.out aQ;replace aR:=ZC HB.out aR;replace bI:=eq_true bI;replace bJ:=eq_true bJ
                   try go_wp2_with (first | ((with_reducible refine gate_dst (N:=18) rfl ?_);(try (refine gate_guard (by rfl) ?_;dsimp only));refine be (cs:=#[.int .i64 0,.int .i64 0]) (t:=76) ?_;intro aC hg nM hbox hb;have aE:=A_ hbox;have bT:=A_ (gl hg (bz (Z8 GE954.out GE956.out)));have GE962:=bT;replace HB:=A_ (bst (Z8 GE954.out GE956.out) hb);have aM:=A_ ((by rw [hg];exact nl (blk_lt (Z1 aB.out)) : aJ ≠ aC));have aV:=A_ ((by rw [hg];exact Nat.ne_of_gt (blk_lt (Z1 aB.out)) : aC ≠ aJ));replace aB:=A_ (bb (Z1 aB.out) hb);have aN:=A_ ((by rw [hg];exact nl (blk_lt (Z1 aA.out)) : aF ≠ aC));have aW:=A_ ((by rw [hg];exact Nat.ne_of_gt (blk_lt (Z1 aA.out)) : aC ≠ aF));replace aA:=A_ (bb (Z1 aA.out) hb);clear hb hbox hg;have GN:=aV.out;have GO:=aM.out;have GP:=aW.out;have GQ:=aN.out;obtain ⟨B0,B1,B2,B3⟩:=C2 aE.out))
                   have bL : Aside0 (((nM.setCell ⟨aC,0,none⟩ (.int .i64 ((rd_T76 l2_5 x113_4).f0))).setCell ⟨aC,1,none⟩ (.int .i64 ((rd_T76 l2_5 x113_4).f1))).heap[aJ]? = some (.cells #[.int .i64 aI,.int .i64 aO,.slice a9 aL.length bA,.slice bB aX.length bC,.slice bD aS.length bE,.slice (some aY) l2_5.length bF,.slice bK aK.length bG] 46 (0,0))):=⟨Z26 aM.out aB.out⟩;have bM : Aside0 (((nM.setCell ⟨aC,0,none⟩ (.int .i64 ((rd_T76 l2_5 x113_4).f0))).setCell ⟨aC,1,none⟩ (.int .i64 ((rd_T76 l2_5 x113_4).f1))).heap[aF]? = some (.cells #[.int .i64 ((rd_T48 l0 a1).f0),.slice A955_1 ((rd_T48 l0 a1).f1).length c955_1,.slice A955_2 ((rd_T48 l0 a1).f2).length c955_2,.int .i64 ((rd_T48 l0 a1).f3.f0),.int .i64 ((rd_T48 l0 a1).f3.f1),.slice A955_5 ((rd_T48 l0 a1).f3.f2).length c955_5,.slice A955_6 ((rd_T48 l0 a1).f3.f3).length c955_6,.slice A955_7 ((rd_T48 l0 a1).f3.f4).length c955_7,.slice A955_8 ((rd_T48 l0 a1).f3.f5).length c955_8,.slice aT ((rd_T48 l0 a1).f3.f6).length aU] 48 (0,0))):=⟨Z26 aN.out aA.out⟩;have bN : Aside0 (((nM.setCell ⟨aC,0,none⟩ (.int .i64 ((rd_T76 l2_5 x113_4).f0))).setCell ⟨aC,1,none⟩ (.int .i64 ((rd_T76 l2_5 x113_4).f1))).heap[aC]? = some (.cells #[.int .i64 ((rd_T76 l2_5 x113_4).f0),.int .i64 ((rd_T76 l2_5 x113_4).f1)] 76 (0,0))):=⟨Z36 aE.out⟩;have bO : Aside0 (Below w.heap.size w ((nM.setCell ⟨aC,0,none⟩ (.int .i64 ((rd_T76 l2_5 x113_4).f0))).setCell ⟨aC,1,none⟩ (.int .i64 ((rd_T76 l2_5 x113_4).f1)))):=⟨Z33⟩
                   (try clear aB);(try clear aA);(try clear aE);(try clear HB);generalize ((nM.setCell ⟨aC,0,none⟩ (.int .i64 ((rd_T76 l2_5 x113_4).f0))).setCell ⟨aC,1,none⟩ (.int .i64 ((rd_T76 l2_5 x113_4).f1))) = G7 at bL bM bN bO ⊢;have aB:=bL;have aA:=bM;have aE:=bN;have HB:=bO;clear bL bM bN bO;have bL:=A_ (blk_drew aB.out);have bM:=A_ (blk_drew aA.out);have bN:=A_ (blk_drew aE.out);have bO:=A_ (below_drew1 HB.out);clear aB aA aE HB;have aB:=bL;have aA:=bM;have aE:=bN;have HB:=bO;clear bL bM bN bO;have dM : 0 ≤ ((a6) : Int):=odt;have dN : (a6) < (l2_5.length : Int):=odt;obtain ⟨eP,gT,aZ,a0⟩:=at_T76 b9.out (a6) dM dN;have a7:=a0;have a8:=aZ;obtain rfl : aY = eP:=(by injection gT);replace aZ:=ZC HB.out aZ;replace a0:=ZC HB.out a0;replace dM:=eq_true dM;replace dN:=eq_true dN
                   refine start_ (n:=30) (S:=fun w' => w'.cell? ⟨aC,0,none⟩ = some (.int .i64 ((rd_T76 l2_5 x113_4).f0)) ∧ w'.cell? ⟨aC,1,none⟩ = some (.int .i64 ((rd_T76 l2_5 x113_4).f1)) ∧ P_7_ w' aJ (.int .i64 aI) (.int .i64 aO) (.slice a9 aL.length bA) (.slice bB aX.length bC) (.slice bD aS.length bE) (.slice (some aY) l2_5.length bF) (.slice bK aK.length bG) (w'.cell? (aY.add (((a6)).toNat * 2)) = some (.int .i64 ((rd_T76 l2_5 (a6)).f0)) ∧ w'.cell? ⟨(aY.add (((a6)).toNat * 2)).block,(aY.add (((a6)).toNat * 2)).off + 1,none⟩ = some (.int .i64 ((rd_T76 l2_5 (a6)).f1)))) (ds:=[]) M1 (by kernel_rfl) rfl rfl ⟨(bc aE.out 0).trans rfl,(bc aE.out 1).trans rfl,(D_7_ aB.out ⟨(ZC HB.out a8 :),(ZC HB.out a7 :)⟩)⟩ (fun hHeld => ?_);refine with_tabW impl_tmplOk.tab25 impl_tmplOk.bits25 (fun HT_ HW_ => ?_)
                   generalize G7.drew = HS at aB aA aE HB aZ a0 hHeld ⊢;refine pU 0 118 M2 ?_;refine take_ (i:=1) (N:=some 119) (v:=?_) (a':=?_) M3 rfl rfl (take_ofW HT_.out HW_.out (by kernel_rfl)) ZF (Or.inl ⟨by rfl,?_⟩) hHeld ?_ ?_;rotate_left
                   ·rintro w' ⟨s0,s1,s2,s3,s4,s5,s6,s7,s8,s9,s10⟩
                    go_simp
                    with_reducible rfl
                   rotate_left;(·exact Z0)
                   refine oU 2 (some 120) M4 (fun K hK => ?_)
                   refine goes_ Try.func14 (by kernel_rfl) rfl #[.int .i64 ((rd_T76 l2_5 x113_4).f0),.int .i64 0,.int .i64 2] (by rfl) rfl rfl Z25 ?_
                   with_reducible refine (impl_within.calls ((rd_T76 l2_5 x113_4).f0) 0 2 true _ lV.out).mono ?_
                   rintro e w' ⟨rfl,⟨nd,rfl⟩⟩
                   refine ⟨_,rfl,?_⟩
                   refine hK.out _ _ ⟨(bc aE.out 0).trans rfl,(bc aE.out 1).trans rfl,(D_7_ aB.out ⟨(ZC HB.out a8 :),(ZC HB.out a7 :)⟩)⟩ (fun hHeld => ?_)
                   clear hK K
                   refine norm_ (a':=?_) ?_ ?_
                   rotate_left;(·exact Z52);refine pU 3 121 M5 ?_;refine pU 4 122 M6 ?_;refine pU 5 123 M7 ?_;refine pU 6 124 M8 ?_;refine pU 7 125 M9 ?_;refine pU 8 126 M10 ?_;refine pU 10 128 M11 ?_;refine pU 12 130 M12 ?_;refine pU 13 131 M13 ?_;refine take_ (i:=9) (N:=some 127) (v:=?_) (a':=?_) M14 rfl rfl (take_ofW HT_.out HW_.out (by kernel_rfl)) ZF (Or.inl ⟨by rfl,?_⟩) hHeld ?_ ?_
                   rotate_left
                   ·rintro w' ⟨s0,s1,s2,s3,s4,s5,s6,s7,s8,s9,s10⟩
                    go_simp
                    with_reducible rfl
                   rotate_left;(·exact Z0);refine take_ (i:=11) (N:=some 129) (v:=?_) (a':=?_) M15 rfl rfl (take_ofW HT_.out HW_.out (by kernel_rfl)) ZF (Or.inl ⟨by rfl,?_⟩) hHeld ?_ ?_
                   rotate_left
                   ·rintro w' ⟨s0,s1,s2,s3,s4,s5,s6,s7,s8,s9,s10⟩
                    go_simp
                    with_reducible rfl
                   rotate_left;(·exact Z0);refine pU 14 132 M16 ?_;refine pU 15 133 M17 ?_;refine take_ (i:=16) (N:=some 134) (v:=?_) (a':=?_) M18 rfl rfl (take_ofW HT_.out HW_.out (by kernel_rfl)) ZF (Or.inl ⟨by rfl,?_⟩) hHeld ?_ ?_
                   rotate_left
                   ·rintro w' ⟨s0,s1,s2,s3,s4,s5,s6,s7,s8,s9,s10⟩
                    go_simp
                    with_reducible rfl
                   rotate_left;(·exact Z0);refine pU 17 135 M19 ?_;refine pU 18 136 M20 ?_;refine pU 19 137 M21 ?_;refine pU 20 138 M22 ?_;refine pN 21 139 M23 ?_;refine pN 22 140 M24 ?_;refine pN 23 141 M25 ?_;refine pN 24 142 M26 ?_;refine pN 25 143 M27 ?_;refine pN 26 144 M28 ?_;refine pN 27 145 M29 ?_;refine pN 28 146 M30 ?_;refine pU 29 147 M31 ?_
                   refine done_ (done_of HT_.out (by kernel_rfl)) ?_
                   try go_wp2
                   go_ret
                   exact ⟨by first | rfl | (simp [errW_none,errW_some] <;> rfl) | (simp only [← d4];first | rfl | (simp [errW_none,errW_some] <;> rfl)) | (simp [*,errW_none,errW_some] <;> rfl),Z33⟩
                  ·rw [if_neg mT] at H
                   have nL:=df mT;clear mT;replace H:=bS H;obtain ⟨CY,nN,H⟩:=H
                   try dsimp only at H
                   have GR:=A_ nN;clear nN
                   by_cases B4 : CY = true
                   ·subst B4
                    rw [if_pos rfl] at H;have H':=A_ H;clear H;have bI : 0 ≤ (x113_4 : Int):=odt;have bJ : x113_4 < (l2_5.length : Int):=odt;obtain ⟨aY,dL,aQ,aR⟩:=at_T76 b9.out x113_4 bI bJ;cases dL;replace aQ:=ZC HB.out aQ;replace aR:=ZC HB.out aR;replace bI:=eq_true bI;replace bJ:=eq_true bJ
                    try go_wp2_with (first | ((with_reducible refine gate_dst (N:=18) rfl ?_);(try (refine gate_guard (by rfl) ?_;dsimp only));refine be (cs:=#[.int .i64 0,.int .i64 0]) (t:=76) ?_;intro aC hg nO hbox hb;have aE:=A_ hbox;have bT:=A_ (gl hg (bz (Z8 GE954.out GE956.out)));have GE962:=bT;replace HB:=A_ (bst (Z8 GE954.out GE956.out) hb);have aM:=A_ ((by rw [hg];exact nl (blk_lt (Z1 aB.out)) : aJ ≠ aC));have aV:=A_ ((by rw [hg];exact Nat.ne_of_gt (blk_lt (Z1 aB.out)) : aC ≠ aJ));replace aB:=A_ (bb (Z1 aB.out) hb);have aN:=A_ ((by rw [hg];exact nl (blk_lt (Z1 aA.out)) : aF ≠ aC));have aW:=A_ ((by rw [hg];exact Nat.ne_of_gt (blk_lt (Z1 aA.out)) : aC ≠ aF));replace aA:=A_ (bb (Z1 aA.out) hb);clear hb hbox hg;have GS:=aV.out;have GT:=aM.out;have GU:=aW.out;have GV:=aN.out;obtain ⟨B5,B6,B7,B8⟩:=C2 aE.out))
                    have bL : Aside0 (((nO.setCell ⟨aC,0,none⟩ (.int .i64 ((rd_T76 l2_5 x113_4).f0))).setCell ⟨aC,1,none⟩ (.int .i64 ((rd_T76 l2_5 x113_4).f1))).heap[aJ]? = some (.cells #[.int .i64 aI,.int .i64 aO,.slice a9 aL.length bA,.slice bB aX.length bC,.slice bD aS.length bE,.slice (some aY) l2_5.length bF,.slice bK aK.length bG] 46 (0,0))):=⟨Z26 aM.out aB.out⟩;have bM : Aside0 (((nO.setCell ⟨aC,0,none⟩ (.int .i64 ((rd_T76 l2_5 x113_4).f0))).setCell ⟨aC,1,none⟩ (.int .i64 ((rd_T76 l2_5 x113_4).f1))).heap[aF]? = some (.cells #[.int .i64 ((rd_T48 l0 a1).f0),.slice A955_1 ((rd_T48 l0 a1).f1).length c955_1,.slice A955_2 ((rd_T48 l0 a1).f2).length c955_2,.int .i64 ((rd_T48 l0 a1).f3.f0),.int .i64 ((rd_T48 l0 a1).f3.f1),.slice A955_5 ((rd_T48 l0 a1).f3.f2).length c955_5,.slice A955_6 ((rd_T48 l0 a1).f3.f3).length c955_6,.slice A955_7 ((rd_T48 l0 a1).f3.f4).length c955_7,.slice A955_8 ((rd_T48 l0 a1).f3.f5).length c955_8,.slice aT ((rd_T48 l0 a1).f3.f6).length aU] 48 (0,0))):=⟨Z26 aN.out aA.out⟩;have bN : Aside0 (((nO.setCell ⟨aC,0,none⟩ (.int .i64 ((rd_T76 l2_5 x113_4).f0))).setCell ⟨aC,1,none⟩ (.int .i64 ((rd_T76 l2_5 x113_4).f1))).heap[aC]? = some (.cells #[.int .i64 ((rd_T76 l2_5 x113_4).f0),.int .i64 ((rd_T76 l2_5 x113_4).f1)] 76 (0,0))):=⟨Z36 aE.out⟩;have bO : Aside0 (Below w.heap.size w ((nO.setCell ⟨aC,0,none⟩ (.int .i64 ((rd_T76 l2_5 x113_4).f0))).setCell ⟨aC,1,none⟩ (.int .i64 ((rd_T76 l2_5 x113_4).f1)))):=⟨Z33⟩
                    (try clear aB);(try clear aA);(try clear aE);(try clear HB);generalize ((nO.setCell ⟨aC,0,none⟩ (.int .i64 ((rd_T76 l2_5 x113_4).f0))).setCell ⟨aC,1,none⟩ (.int .i64 ((rd_T76 l2_5 x113_4).f1))) = G8 at bL bM bN bO ⊢;have aB:=bL;have aA:=bM;have aE:=bN;have HB:=bO;clear bL bM bN bO;have bL:=A_ (blk_drew aB.out);have bM:=A_ (blk_drew aA.out);have bN:=A_ (blk_drew aE.out);have bO:=A_ (below_drew1 HB.out);clear aB aA aE HB;have aB:=bL;have aA:=bM;have aE:=bN;have HB:=bO;clear bL bM bN bO;have dM : 0 ≤ ((a6) : Int):=odt;have dN : (a6) < (l2_5.length : Int):=odt;obtain ⟨eP,gT,aZ,a0⟩:=at_T76 b9.out (a6) dM dN;have a7:=a0;have a8:=aZ;obtain rfl : aY = eP:=(by injection gT);replace aZ:=ZC HB.out aZ;replace a0:=ZC HB.out a0;replace dM:=eq_true dM;replace dN:=eq_true dN
                    refine start_ (n:=30) (S:=fun w' => w'.cell? ⟨aC,0,none⟩ = some (.int .i64 ((rd_T76 l2_5 x113_4).f0)) ∧ w'.cell? ⟨aC,1,none⟩ = some (.int .i64 ((rd_T76 l2_5 x113_4).f1)) ∧ P_7_ w' aJ (.int .i64 aI) (.int .i64 aO) (.slice a9 aL.length bA) (.slice bB aX.length bC) (.slice bD aS.length bE) (.slice (some aY) l2_5.length bF) (.slice bK aK.length bG) (P_10_ w' aF (.int .i64 ((rd_T48 l0 a1).f0)) (.slice A955_1 ((rd_T48 l0 a1).f1).length c955_1) (.slice A955_2 ((rd_T48 l0 a1).f2).length c955_2) (.int .i64 ((rd_T48 l0 a1).f3.f0)) (.int .i64 ((rd_T48 l0 a1).f3.f1)) (.slice A955_5 ((rd_T48 l0 a1).f3.f2).length c955_5) (.slice A955_6 ((rd_T48 l0 a1).f3.f3).length c955_6) (.slice A955_7 ((rd_T48 l0 a1).f3.f4).length c955_7) (.slice A955_8 ((rd_T48 l0 a1).f3.f5).length c955_8) (.slice aT ((rd_T48 l0 a1).f3.f6).length aU) (w'.cell? (aY.add (((a6)).toNat * 2)) = some (.int .i64 ((rd_T76 l2_5 (a6)).f0)) ∧ w'.cell? ⟨(aY.add (((a6)).toNat * 2)).block,(aY.add (((a6)).toNat * 2)).off + 1,none⟩ = some (.int .i64 ((rd_T76 l2_5 (a6)).f1))))) (ds:=[]) M1 (by kernel_rfl) rfl rfl ⟨(bc aE.out 0).trans rfl,(bc aE.out 1).trans rfl,(D_7_ aB.out (D_10_ aA.out ⟨(ZC HB.out a8 :),(ZC HB.out a7 :)⟩))⟩ (fun hHeld => ?_);refine with_tabW impl_tmplOk.tab25 impl_tmplOk.bits25 (fun HT_ HW_ => ?_)
                    generalize G8.drew = HT at aB aA aE HB aZ a0 hHeld ⊢;refine pU 0 118 M2 ?_;refine tU 1 119 M3 ?_ (y:=Z42)
                    refine oU 2 (some 120) M4 (fun K hK => ?_)
                    refine goes_ Try.func14 (by kernel_rfl) rfl #[.int .i64 ((rd_T76 l2_5 x113_4).f0),.int .i64 0,.int .i64 2] (by rfl) rfl rfl Z25 ?_
                    with_reducible refine (impl_within.calls ((rd_T76 l2_5 x113_4).f0) 0 2 true _ lV.out).mono ?_
                    rintro e w' ⟨rfl,⟨nd,rfl⟩⟩
                    refine ⟨_,rfl,?_⟩
                    refine hK.out _ _ ⟨(bc aE.out 0).trans rfl,(bc aE.out 1).trans rfl,(D_7_ aB.out (D_10_ aA.out ⟨(ZC HB.out a8 :),(ZC HB.out a7 :)⟩))⟩ (fun hHeld => ?_)
                    clear hK K
                    refine norm_ (a':=?_) ?_ ?_
                    rotate_left;(·exact Z52);refine pU 3 121 M5 ?_;refine pU 4 122 M6 ?_;refine pU 5 123 M7 ?_;refine pU 6 124 M8 ?_;refine pU 7 125 M9 ?_;refine pU 8 126 M10 ?_;refine pU 10 128 M11 ?_;refine pU 12 130 M12 ?_;refine pU 13 131 M13 ?_;refine tU 9 127 M14 ?_ (y:=Z42);refine tU 11 129 M15 ?_ (y:=Z42);refine pU 14 132 M16 ?_;refine pU 15 133 M17 ?_;refine tU 16 134 M18 ?_ (y:=Z42);refine pU 17 135 M19 ?_;refine pU 18 136 M20 ?_;refine pU 19 137 M21 ?_;refine pU 20 138 M22 ?_;refine pU 21 139 M23 ?_;refine pU 23 141 M32 ?_;refine tU 22 140 M25 ?_ (y:=Z42);refine tU 24 142 M26 ?_ (y:=Z42);refine pU 25 143 M27 ?_;refine pU 26 144 M28 ?_
                    refine oU 27 (some 145) M29 (fun K hK => ?_)
                    refine goes_ Try.func14 (by kernel_rfl) rfl #[.int .i64 ((rd_T76 l2_5 x113_4).f1),.int .i64 0,.int .i64 (wrap64 ((((rd_T48 l0 a1).f2).length : Int) - 1))] (by rfl) rfl rfl Z25 ?_
                    with_reducible refine (impl_within.calls ((rd_T76 l2_5 x113_4).f1) 0 (wrap64 ((((rd_T48 l0 a1).f2).length : Int) - 1)) true _ GR.out).mono ?_
                    rintro e w' ⟨rfl,⟨nd,rfl⟩⟩
                    refine ⟨_,rfl,?_⟩
                    refine hK.out _ _ ⟨(bc aE.out 0).trans rfl,(bc aE.out 1).trans rfl,(D_7_ aB.out (D_10_ aA.out ⟨(ZC HB.out a8 :),(ZC HB.out a7 :)⟩))⟩ (fun hHeld => ?_)
                    clear hK K
                    refine norm_ (a':=?_) ?_ ?_
                    rotate_left;(·exact Z63);refine pU 28 146 M30 ?_;refine pU 29 147 M31 ?_
                    refine done_ (done_of HT_.out (by kernel_rfl)) ?_
                    try go_wp2
                    go_roundg k4
                    case measure => have:=a5.out;have:=bH.out;have:=HK3.out;have:=nH.out;omega
                    case rel => exact ⟨(wrap64 (x113_4 + 1)),Z22,H',⟨by have:=a5.out;have:=bH.out;have:=HK3.out;have:=nH.out;omega⟩,⟨Z1 aB.out⟩,⟨Z1 aA.out⟩,⟨Z33⟩⟩
                   ·replace B4:=Bool.eq_false_iff.mpr B4
                    subst B4;rw [if_neg (show ¬ (false = true) by decide)] at H;obtain rfl:=Option.some.inj H;have bI : 0 ≤ (x113_4 : Int):=odt;have bJ : x113_4 < (l2_5.length : Int):=odt;obtain ⟨aY,dL,aQ,aR⟩:=at_T76 b9.out x113_4 bI bJ;cases dL;replace aQ:=ZC HB.out aQ;replace aR:=ZC HB.out aR;replace bI:=eq_true bI;replace bJ:=eq_true bJ
                    try go_wp2_with (first | ((with_reducible refine gate_dst (N:=18) rfl ?_);(try (refine gate_guard (by rfl) ?_;dsimp only));refine be (cs:=#[.int .i64 0,.int .i64 0]) (t:=76) ?_;intro aC hg nP hbox hb;have aE:=A_ hbox;have bT:=A_ (gl hg (bz (Z8 GE954.out GE956.out)));have GE962:=bT;replace HB:=A_ (bst (Z8 GE954.out GE956.out) hb);have aM:=A_ ((by rw [hg];exact nl (blk_lt (Z1 aB.out)) : aJ ≠ aC));have aV:=A_ ((by rw [hg];exact Nat.ne_of_gt (blk_lt (Z1 aB.out)) : aC ≠ aJ));replace aB:=A_ (bb (Z1 aB.out) hb);have aN:=A_ ((by rw [hg];exact nl (blk_lt (Z1 aA.out)) : aF ≠ aC));have aW:=A_ ((by rw [hg];exact Nat.ne_of_gt (blk_lt (Z1 aA.out)) : aC ≠ aF));replace aA:=A_ (bb (Z1 aA.out) hb);clear hb hbox hg;have GW:=aV.out;have GX:=aM.out;have CZ:=aW.out;have C0:=aN.out;obtain ⟨nQ,nR,nS,nT⟩:=C2 aE.out))
                    have bL : Aside0 (((nP.setCell ⟨aC,0,none⟩ (.int .i64 ((rd_T76 l2_5 x113_4).f0))).setCell ⟨aC,1,none⟩ (.int .i64 ((rd_T76 l2_5 x113_4).f1))).heap[aJ]? = some (.cells #[.int .i64 aI,.int .i64 aO,.slice a9 aL.length bA,.slice bB aX.length bC,.slice bD aS.length bE,.slice (some aY) l2_5.length bF,.slice bK aK.length bG] 46 (0,0))):=⟨Z26 aM.out aB.out⟩;have bM : Aside0 (((nP.setCell ⟨aC,0,none⟩ (.int .i64 ((rd_T76 l2_5 x113_4).f0))).setCell ⟨aC,1,none⟩ (.int .i64 ((rd_T76 l2_5 x113_4).f1))).heap[aF]? = some (.cells #[.int .i64 ((rd_T48 l0 a1).f0),.slice A955_1 ((rd_T48 l0 a1).f1).length c955_1,.slice A955_2 ((rd_T48 l0 a1).f2).length c955_2,.int .i64 ((rd_T48 l0 a1).f3.f0),.int .i64 ((rd_T48 l0 a1).f3.f1),.slice A955_5 ((rd_T48 l0 a1).f3.f2).length c955_5,.slice A955_6 ((rd_T48 l0 a1).f3.f3).length c955_6,.slice A955_7 ((rd_T48 l0 a1).f3.f4).length c955_7,.slice A955_8 ((rd_T48 l0 a1).f3.f5).length c955_8,.slice aT ((rd_T48 l0 a1).f3.f6).length aU] 48 (0,0))):=⟨Z26 aN.out aA.out⟩;have bN : Aside0 (((nP.setCell ⟨aC,0,none⟩ (.int .i64 ((rd_T76 l2_5 x113_4).f0))).setCell ⟨aC,1,none⟩ (.int .i64 ((rd_T76 l2_5 x113_4).f1))).heap[aC]? = some (.cells #[.int .i64 ((rd_T76 l2_5 x113_4).f0),.int .i64 ((rd_T76 l2_5 x113_4).f1)] 76 (0,0))):=⟨Z36 aE.out⟩;have bO : Aside0 (Below w.heap.size w ((nP.setCell ⟨aC,0,none⟩ (.int .i64 ((rd_T76 l2_5 x113_4).f0))).setCell ⟨aC,1,none⟩ (.int .i64 ((rd_T76 l2_5 x113_4).f1)))):=⟨Z33⟩
                    (try clear aB);(try clear aA);(try clear aE);(try clear HB);generalize ((nP.setCell ⟨aC,0,none⟩ (.int .i64 ((rd_T76 l2_5 x113_4).f0))).setCell ⟨aC,1,none⟩ (.int .i64 ((rd_T76 l2_5 x113_4).f1))) = C1 at bL bM bN bO ⊢;have aB:=bL;have aA:=bM;have aE:=bN;have HB:=bO;clear bL bM bN bO;have bL:=A_ (blk_drew aB.out);have bM:=A_ (blk_drew aA.out);have bN:=A_ (blk_drew aE.out);have bO:=A_ (below_drew1 HB.out);clear aB aA aE HB;have aB:=bL;have aA:=bM;have aE:=bN;have HB:=bO;clear bL bM bN bO;have dM : 0 ≤ ((a6) : Int):=odt;have dN : (a6) < (l2_5.length : Int):=odt;obtain ⟨eP,gT,aZ,a0⟩:=at_T76 b9.out (a6) dM dN;have a7:=a0;have a8:=aZ;obtain rfl : aY = eP:=(by injection gT);replace aZ:=ZC HB.out aZ;replace a0:=ZC HB.out a0;replace dM:=eq_true dM;replace dN:=eq_true dN
                    refine start_ (n:=30) (S:=fun w' => w'.cell? ⟨aC,0,none⟩ = some (.int .i64 ((rd_T76 l2_5 x113_4).f0)) ∧ w'.cell? ⟨aC,1,none⟩ = some (.int .i64 ((rd_T76 l2_5 x113_4).f1)) ∧ P_7_ w' aJ (.int .i64 aI) (.int .i64 aO) (.slice a9 aL.length bA) (.slice bB aX.length bC) (.slice bD aS.length bE) (.slice (some aY) l2_5.length bF) (.slice bK aK.length bG) (P_10_ w' aF (.int .i64 ((rd_T48 l0 a1).f0)) (.slice A955_1 ((rd_T48 l0 a1).f1).length c955_1) (.slice A955_2 ((rd_T48 l0 a1).f2).length c955_2) (.int .i64 ((rd_T48 l0 a1).f3.f0)) (.int .i64 ((rd_T48 l0 a1).f3.f1)) (.slice A955_5 ((rd_T48 l0 a1).f3.f2).length c955_5) (.slice A955_6 ((rd_T48 l0 a1).f3.f3).length c955_6) (.slice A955_7 ((rd_T48 l0 a1).f3.f4).length c955_7) (.slice A955_8 ((rd_T48 l0 a1).f3.f5).length c955_8) (.slice aT ((rd_T48 l0 a1).f3.f6).length aU) (w'.cell? (aY.add (((a6)).toNat * 2)) = some (.int .i64 ((rd_T76 l2_5 (a6)).f0)) ∧ w'.cell? ⟨(aY.add (((a6)).toNat * 2)).block,(aY.add (((a6)).toNat * 2)).off + 1,none⟩ = some (.int .i64 ((rd_T76 l2_5 (a6)).f1))))) (ds:=[]) M1 (by kernel_rfl) rfl rfl ⟨(bc aE.out 0).trans rfl,(bc aE.out 1).trans rfl,(D_7_ aB.out (D_10_ aA.out ⟨(ZC HB.out a8 :),(ZC HB.out a7 :)⟩))⟩ (fun hHeld => ?_);refine with_tabW impl_tmplOk.tab25 impl_tmplOk.bits25 (fun HT_ HW_ => ?_)
                    generalize C1.drew = G9 at aB aA aE HB aZ a0 hHeld ⊢;refine pU 0 118 M2 ?_;refine tU 1 119 M3 ?_ (y:=Z42)
                    refine oU 2 (some 120) M4 (fun K hK => ?_)
                    refine goes_ Try.func14 (by kernel_rfl) rfl #[.int .i64 ((rd_T76 l2_5 x113_4).f0),.int .i64 0,.int .i64 2] (by rfl) rfl rfl Z25 ?_
                    with_reducible refine (impl_within.calls ((rd_T76 l2_5 x113_4).f0) 0 2 true _ lV.out).mono ?_
                    rintro e w' ⟨rfl,⟨nd,rfl⟩⟩
                    refine ⟨_,rfl,?_⟩
                    refine hK.out _ _ ⟨(bc aE.out 0).trans rfl,(bc aE.out 1).trans rfl,(D_7_ aB.out (D_10_ aA.out ⟨(ZC HB.out a8 :),(ZC HB.out a7 :)⟩))⟩ (fun hHeld => ?_)
                    clear hK K
                    refine norm_ (a':=?_) ?_ ?_
                    rotate_left;(·exact Z52);refine pU 3 121 M5 ?_;refine pU 4 122 M6 ?_;refine pU 5 123 M7 ?_;refine pU 6 124 M8 ?_;refine pU 7 125 M9 ?_;refine pU 8 126 M10 ?_;refine pU 10 128 M11 ?_;refine pU 12 130 M12 ?_;refine pU 13 131 M13 ?_;refine tU 9 127 M14 ?_ (y:=Z42);refine tU 11 129 M15 ?_ (y:=Z42);refine pU 14 132 M16 ?_;refine pU 15 133 M17 ?_;refine tU 16 134 M18 ?_ (y:=Z42);refine pU 17 135 M19 ?_;refine pU 18 136 M20 ?_;refine pU 19 137 M21 ?_;refine pU 20 138 M22 ?_;refine pU 21 139 M23 ?_;refine pU 23 141 M32 ?_;refine tU 22 140 M25 ?_ (y:=Z42);refine tU 24 142 M26 ?_ (y:=Z42);refine pU 25 143 M27 ?_;refine pU 26 144 M28 ?_
                    refine oU 27 (some 145) M29 (fun K hK => ?_)
                    refine goes_ Try.func14 (by kernel_rfl) rfl #[.int .i64 ((rd_T76 l2_5 x113_4).f1),.int .i64 0,.int .i64 (wrap64 ((((rd_T48 l0 a1).f2).length : Int) - 1))] (by rfl) rfl rfl Z25 ?_
                    with_reducible refine (impl_within.calls ((rd_T76 l2_5 x113_4).f1) 0 (wrap64 ((((rd_T48 l0 a1).f2).length : Int) - 1)) false _ GR.out).mono ?_
                    rintro e w' ⟨rfl,⟨nd,rfl⟩⟩
                    refine ⟨_,rfl,?_⟩
                    refine hK.out _ _ ⟨(bc aE.out 0).trans rfl,(bc aE.out 1).trans rfl,(D_7_ aB.out (D_10_ aA.out ⟨(ZC HB.out a8 :),(ZC HB.out a7 :)⟩))⟩ (fun hHeld => ?_)
                    clear hK K
                    refine norm_ (a':=?_) ?_ ?_
                    rotate_left;(·exact Z63);refine pU 28 146 M30 ?_;refine pU 29 147 M31 ?_
                    refine done_ (done_of HT_.out (by kernel_rfl)) ?_
                    try go_wp2
                    go_ret
                    exact ⟨by first | rfl | (simp [errW_none,errW_some] <;> rfl) | (simp only [← d4];first | rfl | (simp [errW_none,errW_some] <;> rfl)) | (simp [*,errW_none,errW_some] <;> rfl),Z33⟩
                 ·rw [if_neg BZ] at H
                  exact absurd H (by simp)
                ·rw [if_neg BY] at H
                 exact absurd H (by simp)
               ·rw [if_neg mS] at H
                have nK : decide (0 < x113_4) = false:=df mS;clear mS;replace H:=bS H;obtain ⟨C4,lB,H⟩:=H
                try dsimp only at H
                have nU:=A_ lB;clear lB
                by_cases kP : C4 = true
                ·subst kP
                 rw [if_pos rfl] at H;have H':=A_ H;clear H;have bI : 0 ≤ (x113_4 : Int):=odt;have bJ : x113_4 < (l2_5.length : Int):=odt;obtain ⟨aY,dL,aQ,aR⟩:=at_T76 b9.out x113_4 bI bJ;cases dL;replace aQ:=ZC HB.out aQ;replace aR:=ZC HB.out aR;replace bI:=eq_true bI;replace bJ:=eq_true bJ
                 try go_wp2_with (first | ((with_reducible refine gate_dst (N:=18) rfl ?_);(try (refine gate_guard (by rfl) ?_;dsimp only));refine be (cs:=#[.int .i64 0,.int .i64 0]) (t:=76) ?_;intro aC hg gU hbox hb;have aE:=A_ hbox;have bT:=A_ (gl hg (bz (Z8 GE954.out GE956.out)));have GE962:=bT;replace HB:=A_ (bst (Z8 GE954.out GE956.out) hb);have aM:=A_ ((by rw [hg];exact nl (blk_lt (Z1 aB.out)) : aJ ≠ aC));have aV:=A_ ((by rw [hg];exact Nat.ne_of_gt (blk_lt (Z1 aB.out)) : aC ≠ aJ));replace aB:=A_ (bb (Z1 aB.out) hb);have aN:=A_ ((by rw [hg];exact nl (blk_lt (Z1 aA.out)) : aF ≠ aC));have aW:=A_ ((by rw [hg];exact Nat.ne_of_gt (blk_lt (Z1 aA.out)) : aC ≠ aF));replace aA:=A_ (bb (Z1 aA.out) hb);clear hb hbox hg;have C6:=aV.out;have C8:=aM.out;have C9:=aW.out;have DA:=aN.out;obtain ⟨nV,nW,nX,nY⟩:=C2 aE.out))
                 have bL : Aside0 (((gU.setCell ⟨aC,0,none⟩ (.int .i64 ((rd_T76 l2_5 x113_4).f0))).setCell ⟨aC,1,none⟩ (.int .i64 ((rd_T76 l2_5 x113_4).f1))).heap[aJ]? = some (.cells #[.int .i64 aI,.int .i64 aO,.slice a9 aL.length bA,.slice bB aX.length bC,.slice bD aS.length bE,.slice (some aY) l2_5.length bF,.slice bK aK.length bG] 46 (0,0))):=⟨Z26 aM.out aB.out⟩;have bM : Aside0 (((gU.setCell ⟨aC,0,none⟩ (.int .i64 ((rd_T76 l2_5 x113_4).f0))).setCell ⟨aC,1,none⟩ (.int .i64 ((rd_T76 l2_5 x113_4).f1))).heap[aF]? = some (.cells #[.int .i64 ((rd_T48 l0 a1).f0),.slice A955_1 ((rd_T48 l0 a1).f1).length c955_1,.slice A955_2 ((rd_T48 l0 a1).f2).length c955_2,.int .i64 ((rd_T48 l0 a1).f3.f0),.int .i64 ((rd_T48 l0 a1).f3.f1),.slice A955_5 ((rd_T48 l0 a1).f3.f2).length c955_5,.slice A955_6 ((rd_T48 l0 a1).f3.f3).length c955_6,.slice A955_7 ((rd_T48 l0 a1).f3.f4).length c955_7,.slice A955_8 ((rd_T48 l0 a1).f3.f5).length c955_8,.slice aT ((rd_T48 l0 a1).f3.f6).length aU] 48 (0,0))):=⟨Z26 aN.out aA.out⟩;have bN : Aside0 (((gU.setCell ⟨aC,0,none⟩ (.int .i64 ((rd_T76 l2_5 x113_4).f0))).setCell ⟨aC,1,none⟩ (.int .i64 ((rd_T76 l2_5 x113_4).f1))).heap[aC]? = some (.cells #[.int .i64 ((rd_T76 l2_5 x113_4).f0),.int .i64 ((rd_T76 l2_5 x113_4).f1)] 76 (0,0))):=⟨Z36 aE.out⟩;have bO : Aside0 (Below w.heap.size w ((gU.setCell ⟨aC,0,none⟩ (.int .i64 ((rd_T76 l2_5 x113_4).f0))).setCell ⟨aC,1,none⟩ (.int .i64 ((rd_T76 l2_5 x113_4).f1)))):=⟨Z33⟩
                 (try clear aB);(try clear aA);(try clear aE);(try clear HB);generalize ((gU.setCell ⟨aC,0,none⟩ (.int .i64 ((rd_T76 l2_5 x113_4).f0))).setCell ⟨aC,1,none⟩ (.int .i64 ((rd_T76 l2_5 x113_4).f1))) = DB at bL bM bN bO ⊢;have aB:=bL;have aA:=bM;have aE:=bN;have HB:=bO;clear bL bM bN bO;have bL:=A_ (blk_drew aB.out);have bM:=A_ (blk_drew aA.out);have bN:=A_ (blk_drew aE.out);have bO:=A_ (below_drew1 HB.out);clear aB aA aE HB;have aB:=bL;have aA:=bM;have aE:=bN;have HB:=bO;clear bL bM bN bO
                 refine start_ (n:=30) (S:=fun w' => w'.cell? ⟨aC,0,none⟩ = some (.int .i64 ((rd_T76 l2_5 x113_4).f0)) ∧ w'.cell? ⟨aC,1,none⟩ = some (.int .i64 ((rd_T76 l2_5 x113_4).f1)) ∧ P_10 w' aF (.int .i64 ((rd_T48 l0 a1).f0)) (.slice A955_1 ((rd_T48 l0 a1).f1).length c955_1) (.slice A955_2 ((rd_T48 l0 a1).f2).length c955_2) (.int .i64 ((rd_T48 l0 a1).f3.f0)) (.int .i64 ((rd_T48 l0 a1).f3.f1)) (.slice A955_5 ((rd_T48 l0 a1).f3.f2).length c955_5) (.slice A955_6 ((rd_T48 l0 a1).f3.f3).length c955_6) (.slice A955_7 ((rd_T48 l0 a1).f3.f4).length c955_7) (.slice A955_8 ((rd_T48 l0 a1).f3.f5).length c955_8) (.slice aT ((rd_T48 l0 a1).f3.f6).length aU)) (ds:=[]) M1 (by kernel_rfl) rfl rfl ⟨(bc aE.out 0).trans rfl,(bc aE.out 1).trans rfl,(D_10 aA.out)⟩ (fun hHeld => ?_);refine with_tabW impl_tmplOk.tab25 impl_tmplOk.bits25 (fun HT_ HW_ => ?_)
                 generalize DB.drew = HC at aB aA aE HB hHeld ⊢;refine pU 0 118 M2 ?_;refine tU 1 119 M3 ?_ (y:=Z64)
                 refine oU 2 (some 120) M4 (fun K hK => ?_)
                 refine goes_ Try.func14 (by kernel_rfl) rfl #[.int .i64 ((rd_T76 l2_5 x113_4).f0),.int .i64 0,.int .i64 2] (by rfl) rfl rfl Z25 ?_
                 with_reducible refine (impl_within.calls ((rd_T76 l2_5 x113_4).f0) 0 2 true _ lV.out).mono ?_
                 rintro e w' ⟨rfl,⟨nd,rfl⟩⟩
                 refine ⟨_,rfl,?_⟩
                 refine hK.out _ _ ⟨(bc aE.out 0).trans rfl,(bc aE.out 1).trans rfl,(D_10 aA.out)⟩ (fun hHeld => ?_)
                 clear hK K
                 refine norm_ (a':=?_) ?_ ?_
                 rotate_left;(·exact Z52);refine pU 3 121 M5 ?_;refine pU 4 122 M6 ?_;refine pU 5 123 M7 ?_;refine pU 6 124 M8 ?_;refine pU 7 125 M9 ?_;refine pN 8 126 M10 ?_;refine pN 9 127 M33 ?_;refine pN 10 128 M34 ?_;refine pN 11 129 M35 ?_;refine pN 12 130 M36 ?_;refine pN 13 131 M15 ?_;refine pN 14 132 M16 ?_;refine pN 15 133 M17 ?_;refine pN 16 134 M18 ?_;refine pN 17 135 M19 ?_;refine pU 18 136 M20 ?_;refine pU 19 137 M21 ?_;refine pU 20 138 M22 ?_;refine pU 21 139 M23 ?_;refine pU 23 141 M32 ?_;refine tU 22 140 M25 ?_ (y:=Z64);refine tU 24 142 M26 ?_ (y:=Z64);refine pU 25 143 M27 ?_;refine pU 26 144 M28 ?_
                 refine oU 27 (some 145) M29 (fun K hK => ?_)
                 refine goes_ Try.func14 (by kernel_rfl) rfl #[.int .i64 ((rd_T76 l2_5 x113_4).f1),.int .i64 0,.int .i64 (wrap64 ((((rd_T48 l0 a1).f2).length : Int) - 1))] (by rfl) rfl rfl Z25 ?_
                 with_reducible refine (impl_within.calls ((rd_T76 l2_5 x113_4).f1) 0 (wrap64 ((((rd_T48 l0 a1).f2).length : Int) - 1)) true _ nU.out).mono ?_
                 rintro e w' ⟨rfl,⟨nd,rfl⟩⟩
                 refine ⟨_,rfl,?_⟩
                 refine hK.out _ _ ⟨(bc aE.out 0).trans rfl,(bc aE.out 1).trans rfl,(D_10 aA.out)⟩ (fun hHeld => ?_)
                 clear hK K
                 refine norm_ (a':=?_) ?_ ?_
                 rotate_left;(·exact Z63);refine pU 28 146 M30 ?_;refine pU 29 147 M31 ?_
                 refine done_ (done_of HT_.out (by kernel_rfl)) ?_
                 try go_wp2
                 go_roundg k4
                 case measure => have:=a5.out;have:=bH.out;have:=HK3.out;have:=nH.out;omega
                 case rel => exact ⟨(wrap64 (x113_4 + 1)),Z22,H',⟨by have:=a5.out;have:=bH.out;have:=HK3.out;have:=nH.out;omega⟩,⟨Z1 aB.out⟩,⟨Z1 aA.out⟩,⟨Z33⟩⟩
                ·replace kP:=Bool.eq_false_iff.mpr kP
                 subst kP;rw [if_neg (show ¬ (false = true) by decide)] at H;obtain rfl:=Option.some.inj H;have bI : 0 ≤ (x113_4 : Int):=odt;have bJ : x113_4 < (l2_5.length : Int):=odt;obtain ⟨aY,dL,aQ,aR⟩:=at_T76 b9.out x113_4 bI bJ;cases dL;replace aQ:=ZC HB.out aQ;replace aR:=ZC HB.out aR;replace bI:=eq_true bI;replace bJ:=eq_true bJ
                 try go_wp2_with (first | ((with_reducible refine gate_dst (N:=18) rfl ?_);(try (refine gate_guard (by rfl) ?_;dsimp only));refine be (cs:=#[.int .i64 0,.int .i64 0]) (t:=76) ?_;intro aC hg gV hbox hb;have aE:=A_ hbox;have bT:=A_ (gl hg (bz (Z8 GE954.out GE956.out)));have GE962:=bT;replace HB:=A_ (bst (Z8 GE954.out GE956.out) hb);have aM:=A_ ((by rw [hg];exact nl (blk_lt (Z1 aB.out)) : aJ ≠ aC));have aV:=A_ ((by rw [hg];exact Nat.ne_of_gt (blk_lt (Z1 aB.out)) : aC ≠ aJ));replace aB:=A_ (bb (Z1 aB.out) hb);have aN:=A_ ((by rw [hg];exact nl (blk_lt (Z1 aA.out)) : aF ≠ aC));have aW:=A_ ((by rw [hg];exact Nat.ne_of_gt (blk_lt (Z1 aA.out)) : aC ≠ aF));replace aA:=A_ (bb (Z1 aA.out) hb);clear hb hbox hg;have DC:=aV.out;have DD:=aM.out;have DE:=aW.out;have DF:=aN.out;obtain ⟨nZ,n0,n1,n2⟩:=C2 aE.out))
                 have bL : Aside0 (((gV.setCell ⟨aC,0,none⟩ (.int .i64 ((rd_T76 l2_5 x113_4).f0))).setCell ⟨aC,1,none⟩ (.int .i64 ((rd_T76 l2_5 x113_4).f1))).heap[aJ]? = some (.cells #[.int .i64 aI,.int .i64 aO,.slice a9 aL.length bA,.slice bB aX.length bC,.slice bD aS.length bE,.slice (some aY) l2_5.length bF,.slice bK aK.length bG] 46 (0,0))):=⟨Z26 aM.out aB.out⟩;have bM : Aside0 (((gV.setCell ⟨aC,0,none⟩ (.int .i64 ((rd_T76 l2_5 x113_4).f0))).setCell ⟨aC,1,none⟩ (.int .i64 ((rd_T76 l2_5 x113_4).f1))).heap[aF]? = some (.cells #[.int .i64 ((rd_T48 l0 a1).f0),.slice A955_1 ((rd_T48 l0 a1).f1).length c955_1,.slice A955_2 ((rd_T48 l0 a1).f2).length c955_2,.int .i64 ((rd_T48 l0 a1).f3.f0),.int .i64 ((rd_T48 l0 a1).f3.f1),.slice A955_5 ((rd_T48 l0 a1).f3.f2).length c955_5,.slice A955_6 ((rd_T48 l0 a1).f3.f3).length c955_6,.slice A955_7 ((rd_T48 l0 a1).f3.f4).length c955_7,.slice A955_8 ((rd_T48 l0 a1).f3.f5).length c955_8,.slice aT ((rd_T48 l0 a1).f3.f6).length aU] 48 (0,0))):=⟨Z26 aN.out aA.out⟩;have bN : Aside0 (((gV.setCell ⟨aC,0,none⟩ (.int .i64 ((rd_T76 l2_5 x113_4).f0))).setCell ⟨aC,1,none⟩ (.int .i64 ((rd_T76 l2_5 x113_4).f1))).heap[aC]? = some (.cells #[.int .i64 ((rd_T76 l2_5 x113_4).f0),.int .i64 ((rd_T76 l2_5 x113_4).f1)] 76 (0,0))):=⟨Z36 aE.out⟩;have bO : Aside0 (Below w.heap.size w ((gV.setCell ⟨aC,0,none⟩ (.int .i64 ((rd_T76 l2_5 x113_4).f0))).setCell ⟨aC,1,none⟩ (.int .i64 ((rd_T76 l2_5 x113_4).f1)))):=⟨Z33⟩
                 (try clear aB);(try clear aA);(try clear aE);(try clear HB);generalize ((gV.setCell ⟨aC,0,none⟩ (.int .i64 ((rd_T76 l2_5 x113_4).f0))).setCell ⟨aC,1,none⟩ (.int .i64 ((rd_T76 l2_5 x113_4).f1))) = DG at bL bM bN bO ⊢;have aB:=bL;have aA:=bM;have aE:=bN;have HB:=bO;clear bL bM bN bO;have bL:=A_ (blk_drew aB.out);have bM:=A_ (blk_drew aA.out);have bN:=A_ (blk_drew aE.out);have bO:=A_ (below_drew1 HB.out);clear aB aA aE HB;have aB:=bL;have aA:=bM;have aE:=bN;have HB:=bO;clear bL bM bN bO
                 refine start_ (n:=30) (S:=fun w' => w'.cell? ⟨aC,0,none⟩ = some (.int .i64 ((rd_T76 l2_5 x113_4).f0)) ∧ w'.cell? ⟨aC,1,none⟩ = some (.int .i64 ((rd_T76 l2_5 x113_4).f1)) ∧ P_10 w' aF (.int .i64 ((rd_T48 l0 a1).f0)) (.slice A955_1 ((rd_T48 l0 a1).f1).length c955_1) (.slice A955_2 ((rd_T48 l0 a1).f2).length c955_2) (.int .i64 ((rd_T48 l0 a1).f3.f0)) (.int .i64 ((rd_T48 l0 a1).f3.f1)) (.slice A955_5 ((rd_T48 l0 a1).f3.f2).length c955_5) (.slice A955_6 ((rd_T48 l0 a1).f3.f3).length c955_6) (.slice A955_7 ((rd_T48 l0 a1).f3.f4).length c955_7) (.slice A955_8 ((rd_T48 l0 a1).f3.f5).length c955_8) (.slice aT ((rd_T48 l0 a1).f3.f6).length aU)) (ds:=[]) M1 (by kernel_rfl) rfl rfl ⟨(bc aE.out 0).trans rfl,(bc aE.out 1).trans rfl,(D_10 aA.out)⟩ (fun hHeld => ?_);refine with_tabW impl_tmplOk.tab25 impl_tmplOk.bits25 (fun HT_ HW_ => ?_)
                 generalize DG.drew = HD at aB aA aE HB hHeld ⊢;refine pU 0 118 M2 ?_;refine tU 1 119 M3 ?_ (y:=Z64)
                 refine oU 2 (some 120) M4 (fun K hK => ?_)
                 refine goes_ Try.func14 (by kernel_rfl) rfl #[.int .i64 ((rd_T76 l2_5 x113_4).f0),.int .i64 0,.int .i64 2] (by rfl) rfl rfl Z25 ?_
                 with_reducible refine (impl_within.calls ((rd_T76 l2_5 x113_4).f0) 0 2 true _ lV.out).mono ?_
                 rintro e w' ⟨rfl,⟨nd,rfl⟩⟩
                 refine ⟨_,rfl,?_⟩
                 refine hK.out _ _ ⟨(bc aE.out 0).trans rfl,(bc aE.out 1).trans rfl,(D_10 aA.out)⟩ (fun hHeld => ?_)
                 clear hK K
                 refine norm_ (a':=?_) ?_ ?_
                 rotate_left;(·exact Z52);refine pU 3 121 M5 ?_;refine pU 4 122 M6 ?_;refine pU 5 123 M7 ?_;refine pU 6 124 M8 ?_;refine pU 7 125 M9 ?_;refine pN 8 126 M10 ?_;refine pN 9 127 M33 ?_;refine pN 10 128 M34 ?_;refine pN 11 129 M35 ?_;refine pN 12 130 M36 ?_;refine pN 13 131 M15 ?_;refine pN 14 132 M16 ?_;refine pN 15 133 M17 ?_;refine pN 16 134 M18 ?_;refine pN 17 135 M19 ?_;refine pU 18 136 M20 ?_;refine pU 19 137 M21 ?_;refine pU 20 138 M22 ?_;refine pU 21 139 M23 ?_;refine pU 23 141 M32 ?_;refine tU 22 140 M25 ?_ (y:=Z64);refine tU 24 142 M26 ?_ (y:=Z64);refine pU 25 143 M27 ?_;refine pU 26 144 M28 ?_
                 refine oU 27 (some 145) M29 (fun K hK => ?_)
                 refine goes_ Try.func14 (by kernel_rfl) rfl #[.int .i64 ((rd_T76 l2_5 x113_4).f1),.int .i64 0,.int .i64 (wrap64 ((((rd_T48 l0 a1).f2).length : Int) - 1))] (by rfl) rfl rfl Z25 ?_
                 with_reducible refine (impl_within.calls ((rd_T76 l2_5 x113_4).f1) 0 (wrap64 ((((rd_T48 l0 a1).f2).length : Int) - 1)) false _ nU.out).mono ?_
                 rintro e w' ⟨rfl,⟨nd,rfl⟩⟩
                 refine ⟨_,rfl,?_⟩
                 refine hK.out _ _ ⟨(bc aE.out 0).trans rfl,(bc aE.out 1).trans rfl,(D_10 aA.out)⟩ (fun hHeld => ?_)
                 clear hK K
                 refine norm_ (a':=?_) ?_ ?_
                 rotate_left;(·exact Z63);refine pU 28 146 M30 ?_;refine pU 29 147 M31 ?_
                 refine done_ (done_of HT_.out (by kernel_rfl)) ?_
                 try go_wp2
                 go_ret
                 exact ⟨Z12,Z33⟩
              ·replace BX:=Bool.eq_false_iff.mpr BX
               subst BX;rw [if_neg (show ¬ (false = true) by decide)] at H;obtain rfl:=Option.some.inj H;have bI : 0 ≤ (x113_4 : Int):=odt;have bJ : x113_4 < (l2_5.length : Int):=odt;obtain ⟨aY,dL,aQ,aR⟩:=at_T76 b9.out x113_4 bI bJ;cases dL;replace aQ:=ZC HB.out aQ;replace aR:=ZC HB.out aR;replace bI:=eq_true bI;replace bJ:=eq_true bJ
               try go_wp2_with (first | ((with_reducible refine gate_dst (N:=18) rfl ?_);(try (refine gate_guard (by rfl) ?_;dsimp only));refine be (cs:=#[.int .i64 0,.int .i64 0]) (t:=76) ?_;intro aC hg gW hbox hb;have aE:=A_ hbox;have bT:=A_ (gl hg (bz (Z8 GE954.out GE956.out)));have GE962:=bT;replace HB:=A_ (bst (Z8 GE954.out GE956.out) hb);have aM:=A_ ((by rw [hg];exact nl (blk_lt (Z1 aB.out)) : aJ ≠ aC));have aV:=A_ ((by rw [hg];exact Nat.ne_of_gt (blk_lt (Z1 aB.out)) : aC ≠ aJ));replace aB:=A_ (bb (Z1 aB.out) hb);have aN:=A_ ((by rw [hg];exact nl (blk_lt (Z1 aA.out)) : aF ≠ aC));have aW:=A_ ((by rw [hg];exact Nat.ne_of_gt (blk_lt (Z1 aA.out)) : aC ≠ aF));replace aA:=A_ (bb (Z1 aA.out) hb);clear hb hbox hg;have DH:=aV.out;have DI:=aM.out;have DJ:=aW.out;have DK:=aN.out;obtain ⟨n3,n4,n5,n7⟩:=C2 aE.out))
               have bL : Aside0 (((gW.setCell ⟨aC,0,none⟩ (.int .i64 ((rd_T76 l2_5 x113_4).f0))).setCell ⟨aC,1,none⟩ (.int .i64 ((rd_T76 l2_5 x113_4).f1))).heap[aJ]? = some (.cells #[.int .i64 aI,.int .i64 aO,.slice a9 aL.length bA,.slice bB aX.length bC,.slice bD aS.length bE,.slice (some aY) l2_5.length bF,.slice bK aK.length bG] 46 (0,0))):=⟨Z26 aM.out aB.out⟩;have bM : Aside0 (((gW.setCell ⟨aC,0,none⟩ (.int .i64 ((rd_T76 l2_5 x113_4).f0))).setCell ⟨aC,1,none⟩ (.int .i64 ((rd_T76 l2_5 x113_4).f1))).heap[aF]? = some (.cells #[.int .i64 ((rd_T48 l0 a1).f0),.slice A955_1 ((rd_T48 l0 a1).f1).length c955_1,.slice A955_2 ((rd_T48 l0 a1).f2).length c955_2,.int .i64 ((rd_T48 l0 a1).f3.f0),.int .i64 ((rd_T48 l0 a1).f3.f1),.slice A955_5 ((rd_T48 l0 a1).f3.f2).length c955_5,.slice A955_6 ((rd_T48 l0 a1).f3.f3).length c955_6,.slice A955_7 ((rd_T48 l0 a1).f3.f4).length c955_7,.slice A955_8 ((rd_T48 l0 a1).f3.f5).length c955_8,.slice aT ((rd_T48 l0 a1).f3.f6).length aU] 48 (0,0))):=⟨Z26 aN.out aA.out⟩;have bN : Aside0 (((gW.setCell ⟨aC,0,none⟩ (.int .i64 ((rd_T76 l2_5 x113_4).f0))).setCell ⟨aC,1,none⟩ (.int .i64 ((rd_T76 l2_5 x113_4).f1))).heap[aC]? = some (.cells #[.int .i64 ((rd_T76 l2_5 x113_4).f0),.int .i64 ((rd_T76 l2_5 x113_4).f1)] 76 (0,0))):=⟨Z36 aE.out⟩;have bO : Aside0 (Below w.heap.size w ((gW.setCell ⟨aC,0,none⟩ (.int .i64 ((rd_T76 l2_5 x113_4).f0))).setCell ⟨aC,1,none⟩ (.int .i64 ((rd_T76 l2_5 x113_4).f1)))):=⟨Z33⟩
               (try clear aB);(try clear aA);(try clear aE);(try clear HB);generalize ((gW.setCell ⟨aC,0,none⟩ (.int .i64 ((rd_T76 l2_5 x113_4).f0))).setCell ⟨aC,1,none⟩ (.int .i64 ((rd_T76 l2_5 x113_4).f1))) = DL at bL bM bN bO ⊢;have aB:=bL;have aA:=bM;have aE:=bN;have HB:=bO;clear bL bM bN bO;have bL:=A_ (blk_drew aB.out);have bM:=A_ (blk_drew aA.out);have bN:=A_ (blk_drew aE.out);have bO:=A_ (below_drew1 HB.out);clear aB aA aE HB;have aB:=bL;have aA:=bM;have aE:=bN;have HB:=bO;clear bL bM bN bO
               refine start_ (n:=30) (S:=fun w' => w'.cell? ⟨aC,0,none⟩ = some (.int .i64 ((rd_T76 l2_5 x113_4).f0)) ∧ w'.cell? ⟨aC,1,none⟩ = some (.int .i64 ((rd_T76 l2_5 x113_4).f1))) (ds:=[]) M1 (by kernel_rfl) rfl rfl ⟨(bc aE.out 0).trans rfl,(bc aE.out 1).trans rfl⟩ (fun hHeld => ?_);refine with_tabW impl_tmplOk.tab25 impl_tmplOk.bits25 (fun HT_ HW_ => ?_)
               generalize DL.drew = HE at aB aA aE HB hHeld ⊢;refine pU 0 118 M2 ?_;refine take_ (i:=1) (N:=some 119) (v:=?_) (a':=?_) M3 rfl rfl (take_ofW HT_.out HW_.out (by kernel_rfl)) ZF (Or.inl ⟨by rfl,?_⟩) hHeld ?_ ?_;rotate_left
               ·rintro w' ⟨s0,s1⟩
                go_simp
                with_reducible rfl
               rotate_left;(·exact Z0)
               refine oU 2 (some 120) M4 (fun K hK => ?_)
               refine goes_ Try.func14 (by kernel_rfl) rfl #[.int .i64 ((rd_T76 l2_5 x113_4).f0),.int .i64 0,.int .i64 2] (by rfl) rfl rfl Z25 ?_
               with_reducible refine (impl_within.calls ((rd_T76 l2_5 x113_4).f0) 0 2 false _ lV.out).mono ?_
               rintro e w' ⟨rfl,⟨nd,rfl⟩⟩
               refine ⟨_,rfl,?_⟩
               refine hK.out _ _ ⟨(bc aE.out 0).trans rfl,(bc aE.out 1).trans rfl⟩ (fun hHeld => ?_)
               clear hK K
               refine norm_ (a':=?_) ?_ ?_
               rotate_left;(·exact Z52);refine pU 3 121 M5 ?_;refine pU 4 122 M6 ?_;refine pN 5 123 M7 ?_;refine pN 6 124 M8 ?_;refine pN 7 125 M9 ?_;refine pN 8 126 M10 ?_;refine pN 9 127 M33 ?_;refine pN 10 128 M34 ?_;refine pN 11 129 M35 ?_;refine pN 12 130 M36 ?_;refine pN 13 131 M15 ?_;refine pN 14 132 M16 ?_;refine pN 15 133 M17 ?_;refine pN 16 134 M18 ?_;refine pN 17 135 M19 ?_;refine pN 18 136 M20 ?_;refine pU 19 137 M21 ?_;refine pU 20 138 M22 ?_;refine pN 21 139 M23 ?_;refine pN 22 140 M24 ?_;refine pN 23 141 M25 ?_;refine pN 24 142 M26 ?_;refine pN 25 143 M27 ?_;refine pN 26 144 M28 ?_;refine pN 27 145 M29 ?_;refine pN 28 146 M30 ?_;refine pU 29 147 M31 ?_
               refine done_ (done_of HT_.out (by kernel_rfl)) ?_
               try go_wp2
               go_ret
               exact ⟨Z12,Z33⟩
             ·rw [if_neg BW] at H
              exact absurd H (by simp)
            ·rw [if_neg BV] at H
             exact absurd H (by simp)
           ·rw [if_neg mR] at H
            have nI:=df mR;clear mR;have H':=A_ H;clear H
            go_wp2
            go_meet
            case rel => exact ⟨_,((aL.length : Int)),(0),(4),Z22,Z22,Z22,H',⟨by have:=a5.out;have:=bH.out;have:=HK3.out;have:=nH.out;first | omega | exact Nat.le_refl _⟩,⟨Z1 aB.out⟩,⟨Z1 aA.out⟩,⟨Z8 GE954.out GE956.out⟩⟩
     ·replace AN:=Bool.eq_false_iff.mpr AN
      subst AN;rw [if_neg (show ¬ (false = true) by decide)] at H;obtain rfl:=Option.some.inj H;have DM:=aD.out;have DN:=aG.out;obtain ⟨n8,n9,oA,oB,oC,oD,oE,oF,oG,oH,oI,oJ,oK,oL⟩:=C7 aB.out
      go_wp2_with (first | ((with_reducible refine gate_callee (f:=14) rfl ?_);refine gL 82 Try.func14 #[.int .i64 aO,.int .i64 0,.int .i64 4] ?_;(with_reducible refine (impl_within.calls aO 0 4 false _ F6.out).mono ?_);rintro e w' ⟨rfl,⟨nd,rfl⟩⟩;refine ⟨_,rfl,?_⟩))
      go_ret
      exact ⟨Z12,Z8 GE954.out GE956.out⟩
    ·rw [if_neg lT] at H
     have k8:=e_f lT;have k9:=n_t lT
     by_cases eT : aI = 2
     ·rw [if_pos eT] at H
      have lW:=e_t eT;have lX:=n_f eT;clear eT;have H':=A_ H;clear H
      go_wp2
      go_meet
      case rel => exact ⟨_,(1),(1),(2),Z22,Z22,Z22,H',⟨by have:=a5.out;have:=bH.out;first | omega | exact Nat.le_refl _⟩,⟨Z1 aB.out⟩,⟨Z1 aA.out⟩,⟨Z8 GE954.out GE956.out⟩⟩
     ·rw [if_neg eT] at H
      have lW:=e_f eT;have lX:=n_t eT
      by_cases eU : aI = 3
      ·rw [if_pos eU] at H
       have lY:=e_t eU;have lZ:=n_f eU;clear eU
       by_cases gC : (aS.length : Int) > 0
       ·rw [if_pos gC] at H
        have mA : decide (0 < (aS.length : Int)) = true:=dt gC;have mB : decide (0 < aS.length) = true:=dt (by omega);clear gC;replace H:=bS H;obtain ⟨DO,lC,H⟩:=H
        try dsimp only at H
        have oM:=A_ lC;clear lC
        by_cases kQ : DO = true
        ·subst kQ
         rw [if_pos rfl] at H;have H':=A_ H;clear H;have DP:=aD.out;have DQ:=aG.out;obtain ⟨oN,oO,oP,oQ,oR,oS,oT,oV,oW,oX,oY,oZ,o0,o1⟩:=C7 aB.out;obtain ⟨o2,o3,o4,o5,o6,o7,o8,o9,pA,pB,pC,pD,pE,pF,pG,pH,pI,pJ,pK,pL⟩:=C10 aA.out
         go_wp2_with (first | (go_at_call 37;(with_reducible refine (impl_FormOk.calls gR _ _ aS ((rd_T48 l0 a1).f0) (((rd_T48 l0 a1).f1).length : Int) (wrap64 (a4 + 1)) true _ ?s1 k1.out oM.out).mono ?_);(case s1 => exact Z9 k0.out);rintro e HF ⟨rfl,hb⟩;replace aB:=A_ (bb (Z1 aB.out) hb);replace aA:=A_ (bb (Z1 aA.out) hb);replace HB:=A_ (bst (Z8 GE954.out GE956.out) hb);(try clear hb)))
         go_meet
         case rel => exact ⟨_,(1),(1),(1),Z22,Z22,Z22,H',⟨by have:=a5.out;have:=bH.out;first | omega | exact Nat.le_refl _⟩,⟨Z1 aB.out⟩,⟨Z1 aA.out⟩,⟨Z8 GE954.out GE956.out⟩⟩
        ·replace kQ:=Bool.eq_false_iff.mpr kQ
         subst kQ;rw [if_neg (show ¬ (false = true) by decide)] at H;obtain rfl:=Option.some.inj H;have DR:=aD.out;have DS:=aG.out;obtain ⟨pM,pO,pP,pQ,pR,pS,pT,pV,pW,pX,pY,pZ,p0,p1⟩:=C7 aB.out;obtain ⟨p2,p3,p4,p5,p6,p7,p8,p9,qA,qB,qC,qD,qE,qF,qG,qH,qI,qJ,qK,qL⟩:=C10 aA.out
         go_wp2_with (first | (go_at_call 37;(with_reducible refine (impl_FormOk.calls gR _ _ aS ((rd_T48 l0 a1).f0) (((rd_T48 l0 a1).f1).length : Int) (wrap64 (a4 + 1)) false _ ?s1 k1.out oM.out).mono ?_);(case s1 => exact Z9 k0.out);rintro e HG ⟨rfl,hb⟩;replace aB:=A_ (bb (Z1 aB.out) hb);replace aA:=A_ (bb (Z1 aA.out) hb);replace HB:=A_ (bst (Z8 GE954.out GE956.out) hb);(try clear hb)))
         go_ret
         exact ⟨Z12,Z8 GE954.out GE956.out⟩
       ·rw [if_neg gC] at H
        have mA : decide (0 < (aS.length : Int)) = false:=df gC;have mB : decide (0 < aS.length) = false:=df (by omega);clear gC;have H':=A_ H;clear H;have DT:=aD.out;have DU:=aG.out;obtain ⟨qM,qN,qO,qP,qQ,qR,qS,qT,qU,qV,qW,qX,qY,qZ⟩:=C7 aB.out
        go_wp2
        go_meet
        case rel => exact ⟨_,(1),(1),(1),Z22,Z22,Z22,H',⟨by have:=a5.out;have:=bH.out;first | omega | exact Nat.le_refl _⟩,⟨Z1 aB.out⟩,⟨Z1 aA.out⟩,⟨Z8 GE954.out GE956.out⟩⟩
      ·rw [if_neg eU] at H
       have lY:=e_f eU;have lZ:=n_t eU
       by_cases eV : aI = 4
       ·rw [if_pos eV] at H
        have mC:=e_t eV;have mD:=n_f eV;clear eV;replace H:=bS H;obtain ⟨DV,lD,H⟩:=H
        try dsimp only at H
        have q0:=A_ lD;clear lD
        by_cases kR : DV = true
        ·subst kR
         rw [if_pos rfl] at H
         by_cases kS : 0 ≤ aO
         ·rw [if_pos kS] at H
          have DW:=dt kS;clear kS
          by_cases kT : aO < (l0.length : Int)
          ·rw [if_pos kT] at H
           have DX:=dt kT;clear kT;have H':=A_ H;clear H;have DY:=aD.out;have DZ:=aG.out;obtain ⟨q1,q2,q3,q4,q5,q7,q8,q9,rA,rB,rC,rD,rE,rF⟩:=C7 aB.out
           go_wp2_with (first | ((with_reducible refine gate_callee (f:=14) rfl ?_);refine gL 179 Try.func14 #[.int .i64 aO,.int .i64 (wrap64 (a1 + 1)),.int .i64 (wrap64 ((l0.length : Int) - 1))] ?_;(with_reducible refine (impl_within.calls aO (wrap64 (a1 + 1)) (wrap64 ((l0.length : Int) - 1)) true _ q0.out).mono ?_);rintro e w' ⟨rfl,⟨nd,rfl⟩⟩;refine ⟨_,rfl,?_⟩;have mE : 0 ≤ (aO : Int):=odt;have mF : aO < (l0.length : Int):=odt;obtain ⟨rG,D0,D1,D2,D3,D4,D5,D6,D7,D8,D9,EA,EB,EC,ED,EE,fG,fH,fI,fJ,fK,fL,fM,fN,fO,fP,fQ,fR,fS,fT,fU,fV,fW,fX,fY,fZ,f7,f8,f9,gA⟩:=at_T48 mU.out aO mE mF;obtain rfl : e1 = rG:=(by injection EE);replace fG:=ZC HB.out fG;replace fH:=ZC HB.out fH;replace fI:=ZC HB.out fI;replace fJ:=ZC HB.out fJ;replace fK:=ZC HB.out fK;replace fL:=ZC HB.out fL;replace fM:=ZC HB.out fM;replace fN:=ZC HB.out fN;replace fO:=ZC HB.out fO;replace fP:=ZC HB.out fP;have B9:=A_ fR;have CA:=A_ fQ;clear fR fQ;have CB:=A_ fT;have CC:=A_ fS;clear fT fS;have CD:=A_ fV;have CE:=A_ fU;clear fV fU;have CF:=A_ fX;have CG:=A_ fW;clear fX fW;have CH:=A_ fZ;have CI:=A_ fY;clear fZ fY;have CJ:=A_ f8;have CK:=A_ f7;clear f8 f7;have CL:=A_ gA;have CM:=A_ f9;clear gA f9;replace mE:=eq_true mE;replace mF:=eq_true mF))
           go_meet
           case rel => exact ⟨_,((rd_T48 l0 aO).f0),(0),(0),Z22,Z22,Z22,H',⟨by have:=a5.out;have:=bH.out;first | omega | exact Nat.le_refl _⟩,⟨Z1 aB.out⟩,⟨Z1 aA.out⟩,⟨Z8 GE954.out GE956.out⟩⟩
          ·rw [if_neg kT] at H
           exact absurd H (by simp)
         ·rw [if_neg kS] at H
          exact absurd H (by simp)
        ·replace kR:=Bool.eq_false_iff.mpr kR
         subst kR;rw [if_neg (show ¬ (false = true) by decide)] at H;obtain rfl:=Option.some.inj H;have EF:=aD.out;have EG:=aG.out;obtain ⟨rH,rI,rJ,rK,rL,rM,rN,rO,rP,rQ,rR,rS,rT,rU⟩:=C7 aB.out
         go_wp2_with (first | ((with_reducible refine gate_callee (f:=14) rfl ?_);refine gL 179 Try.func14 #[.int .i64 aO,.int .i64 (wrap64 (a1 + 1)),.int .i64 (wrap64 ((l0.length : Int) - 1))] ?_;(with_reducible refine (impl_within.calls aO (wrap64 (a1 + 1)) (wrap64 ((l0.length : Int) - 1)) false _ q0.out).mono ?_);rintro e w' ⟨rfl,⟨nd,rfl⟩⟩;refine ⟨_,rfl,?_⟩))
         go_ret
         exact ⟨Z12,Z8 GE954.out GE956.out⟩
       ·rw [if_neg eV] at H
        have mC:=e_f eV;have mD:=n_t eV
        by_cases eW : aI = 5
        ·rw [if_pos eW] at H
         have mG:=e_t eW;have mH:=n_f eW;clear eW;replace H:=bS H;obtain ⟨EH,lE,H⟩:=H
         try dsimp only at H
         have rV:=A_ lE;clear lE
         by_cases kU : EH = true
         ·subst kU
          rw [if_pos rfl] at H;have H':=A_ H;clear H;have EI:=aD.out;have EJ:=aG.out;obtain ⟨rW,rX,rY,rZ,r1,r2,r3,r4,r5,r7,r8,r9,sA,sB⟩:=C7 aB.out
          go_wp2_with (first | ((with_reducible refine gate_callee (f:=14) rfl ?_);refine gL 191 Try.func14 #[.int .i64 aO,.int .i64 0,.int .i64 1] ?_;(with_reducible refine (impl_within.calls aO 0 1 true _ rV.out).mono ?_);rintro e w' ⟨rfl,⟨nd,rfl⟩⟩;refine ⟨_,rfl,?_⟩))
          go_meet
          case rel => exact ⟨_,(1),(0),(4),Z22,Z22,Z22,H',⟨by have:=a5.out;have:=bH.out;first | omega | exact Nat.le_refl _⟩,⟨Z1 aB.out⟩,⟨Z1 aA.out⟩,⟨Z8 GE954.out GE956.out⟩⟩
         ·replace kU:=Bool.eq_false_iff.mpr kU
          subst kU;rw [if_neg (show ¬ (false = true) by decide)] at H;obtain rfl:=Option.some.inj H;have EK:=aD.out;have EL:=aG.out;obtain ⟨sC,sD,sE,sF,sG,sH,sI,sJ,sK,sL,sM,sN,sO,sP⟩:=C7 aB.out
          go_wp2_with (first | ((with_reducible refine gate_callee (f:=14) rfl ?_);refine gL 191 Try.func14 #[.int .i64 aO,.int .i64 0,.int .i64 1] ?_;(with_reducible refine (impl_within.calls aO 0 1 false _ rV.out).mono ?_);rintro e w' ⟨rfl,⟨nd,rfl⟩⟩;refine ⟨_,rfl,?_⟩))
          go_ret
          exact ⟨Z12,Z8 GE954.out GE956.out⟩
        ·rw [if_neg eW] at H
         have mG:=e_f eW;have mH:=n_t eW;obtain rfl:=Option.some.inj H
         go_wp2
         go_ret
         exact ⟨Z12,Z8 GE954.out GE956.out⟩
end Go.Proofs.Ytmgdjmeoljepgaa.PFnProgBelow