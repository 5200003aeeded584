/- Walks of the functions that the law 'FnExactHistOk' reaches, part 7: for each a Lean function and the proof that Go's comes to just its answer (lines of the print, under own names; no condition). -/
import Derived.Test.YtmphggpibaolcaaZFnExactHistOkQFnExactHistOkx0
import Derived.Test.YtmphggpibaolcaaZFnExactHistOkQFnExactHistOkx6
namespace Go.Proofs.Ytmphggpibaolcaa.PFnExactHistOk
open Go.RowKit Go.Proofs.YtmphggpibaolcaaW.PrintWords Go.Proofs.YtmphggpibaolcaaW.PrintLast Go.Proofs.YtmphggpibaolcaaW.PrintMore
attribute [local go_sem] max2_int min2_int max_two min_two max_three min_three max_four min_four
set_option linter.unusedVariables false
set_option linter.unusedSimpArgs false
def laws_toCellSS.l0 : Nat → List (List (S86)) → List (List (S95)) → Int → Option ((List (List (S95))))
 | 0, _, _, _ => none
 | k + 1, x0, x3, x4 => if x4 < (x0.length : Int) then (if 0 ≤ x4 then ((laws_toCellS.f k (rd_L7 x0 x4)).bind fun t195 => (if x4 < (x3.length : Int) then (laws_toCellSS.l0 k x0 (x3.set (x4 : Int).toNat t195) (wrap64 (x4 + 1))) else (none))) else (none)) else (some x3)
def laws_toCellSS.f (k : Nat) (l0 : List (List (S86))) : Option ((List (List (S95)))) := if 0 ≤ (l0.length : Int) then (if ((l0.length : Int) : Int).toNat ≤ 11728124029610 then (laws_toCellSS.l0 k l0 (List.replicate ((l0.length : Int) : Int).toNat []) 0) else (none)) else (none)
theorem laws_toCellSS.mono_l : ∀ k, (∀ y0 y1 y2, LeO (laws_toCellSS.l0 k y0 y1 y2) (laws_toCellSS.l0 (k + 1) y0 y1 y2))
 | 0 => fun _ _ _ r h => by simp [laws_toCellSS.l0] at h
 | k + 1 => by
  have ih0 := laws_toCellSS.mono_l k
  ·intro y0 y1 y2
   unfold laws_toCellSS.l0
   repeat' first
   | (with_reducible exact ih0 _ _ _)
   | (with_reducible exact laws_toCellS.mono _ _)
   | (with_reducible exact LeO.refl _)
   | (with_reducible exact LeO.none _)
   | (with_reducible refine LeO.ite ?_ ?_)
   | (with_reducible refine LeO.bind ?_ (fun _ => ?_))
   | exact ih0 _ _ _
   | exact laws_toCellS.mono _ _
   | exact LeO.none _
   | refine LeO.ite ?_ ?_
   | refine LeO.bind ?_ (fun _ => ?_)
theorem laws_toCellSS.mono : ∀ a0 k, LeO (laws_toCellSS.f k a0) (laws_toCellSS.f (k + 1) a0) := by
 intro a0 k
 have ih0 := laws_toCellSS.mono_l k
 unfold laws_toCellSS.f
 repeat' first
   | (with_reducible exact ih0 _ _ _)
   | (with_reducible exact laws_toCellS.mono _ _)
   | (with_reducible exact LeO.refl _)
   | (with_reducible exact LeO.none _)
   | (with_reducible refine LeO.ite ?_ ?_)
   | (with_reducible refine LeO.bind ?_ (fun _ => ?_))
   | exact ih0 _ _ _
   | exact laws_toCellS.mono _ _
   | exact LeO.none _
   | refine LeO.ite ?_ ?_
   | refine LeO.bind ?_ (fun _ => ?_)
set_option maxHeartbeats 8000000 in
set_option maxRecDepth 100000 in
theorem laws_toCellSS.calls (k : Nat) (A0 : Option Addr) (c0 : Nat) (l0 : List (List (S86))) (r : List (List (S95))) (w : World) (hr0 : Kd.C (Kd.slice 86 k86) w A0 l0.length l0) (hc0 : l0.length ≤ c0) (h : laws_toCellSS.f k l0 = some r) :
  Calls Try.prog 35 #[.slice A0 l0.length c0] w fun e w' => ∃ v0_ : Value, e = .returned (v0_) ∧ Kd.R (Kd.slice 95 k95) 28 w' w.heap.size (fun _ => True) v0_ r ∧ Below w.heap.size w w' := by
 have HR0 := A_ hr0
 have HC0 := A_ hc0
 clear hr0 hc0
 have HB := A_ (Below.refl w.heap.size w)
 have H : (if 0 ≤ (l0.length : Int) then (if ((l0.length : Int) : Int).toNat ≤ 11728124029610 then (laws_toCellSS.l0 k l0 (List.replicate ((l0.length : Int) : Int).toNat []) 0) else (none)) else (none)) = some r := h
 clear h
 by_cases c2 : 0 ≤ (l0.length : Int)
 ·rw [if_pos c2] at H
  have c2b0 := eq_true c2
  have c2b1 : decide (0 ≤ (l0.length : Int)) = true := decide_eq_true c2
  clear c2
  by_cases c3 : ((l0.length : Int) : Int).toNat ≤ 11728124029610
  ·rw [if_pos c3] at H
   have c3b0 := eq_true c3
   have c3b1 : decide (((l0.length : Int) : Int).toNat ≤ 11728124029610) = true := decide_eq_true c3
   clear c3
   obtain ⟨y191, hy191⟩ : ∃ y_ : List (List (S95)), y_ = (List.replicate ((l0.length : Int) : Int).toNat []) := ⟨_, rfl⟩
   replace H : (laws_toCellSS.l0 k l0 y191 0) = some r := by first | (rw [hy191]; with_reducible exact H) | (have H2_ := (Option.bind_some _ _).symm.trans H; rw [hy191]; with_reducible exact H2_) | (have H2_ := (Option.bind_some _ _).symm.trans H; with_reducible exact H2_) | with_reducible exact H | (rw [hy191]; exact H) | exact H
   have Ny191 := A_ hy191
   clear hy191
   have H' := A_ H
   clear H
   go_enter Try.func35, Try.ntmps35
   go_wp2_with (first | ((with_reducible refine gate_dst (N := 7) rfl ?_); refine Kd.R_make (Kd.slice 95 k95) _ 28 rfl (N := 7) rfl 29 _ _ rfl (l0.length : Int) rfl rfl Try.underlying29 (.slice none 0 0) 24 info28 rfl (by decide) (by omega) [] (ok := fun _ => True) (okp := fun _ => True) ⟨_, rfl, Kd.R_nil _ _ _ _ _⟩ (fun _ hk => hk) trivial (of_decide_eq_true Z12) (Nat.le_trans (Nat.mul_le_mul_right _ (of_decide_eq_true Z12 : (l0.length : Int).toNat ≤ 11728124029610)) (by omega)) (Below.refl _ _) (Nat.le_refl _) ?_; intro v192 w4 ho5 hb hg_ hnew_; clear hg_ hnew_; (first | rw [← Ny191.out] at ho5 | (simp only [Int.reduceToNat] at ho5; rw [← Ny191.out] at ho5)); have n0_ := A_ (Kd.R_lower ho5 (below_size Z1)); have n1_ := A_ (below_step Z1 hb); clear HB; have HO193 := n0_; have HB := n1_; clear n0_ n1_; clear hb ho5))
   go_loopg [4] k (fun kq v4 w' => ∃ (x3_1 : List (List (S95))) (x4_1 : Int), v4 = .int .i64 x4_1 ∧ Aside0 (laws_toCellSS.l0 kq l0 x3_1 x4_1 = some r) ∧ Aside0 (kq ≤ k) ∧ Aside0 (Kd.R (Kd.slice 95 k95) 28 w' w.heap.size (fun _ => True) v192 x3_1) ∧ Aside0 (Below w.heap.size w w'))
   case atStart => exact ⟨(y191), (0), Z17, H', ⟨Nat.le_refl _⟩, ⟨Z14 HO193.out⟩, ⟨Z1⟩⟩
   case round =>
    clear H'
    try clear c2
    try clear c2b0
    try clear c2b1
    try clear p2
    try clear c3
    try clear c3b0
    try clear c3b1
    obtain ⟨x3_1, x4_1, rfl, HA, HK1, HO_3, HB⟩ := hrel
    cases gk with
    | zero => exact absurd HA.out (by simp [laws_toCellSS.l0])
    | succ k1 =>
     have H := HA.out
     clear HA
     simp only [laws_toCellSS.l0] at H
     by_cases c6 : x4_1 < (l0.length : Int)
     ·rw [if_pos c6] at H
      have c6b0 : decide (x4_1 < (l0.length : Int)) = true := decide_eq_true c6
      clear c6
      by_cases c7 : 0 ≤ x4_1
      ·rw [if_pos c7] at H
       have c7b0 : decide (0 ≤ x4_1) = true := decide_eq_true c7
       clear c7
       replace H := Option.bind_eq_some_iff.mp H
       obtain ⟨t195, A80, H⟩ := H
       replace H : (if x4_1 < (x3_1.length : Int) then (laws_toCellSS.l0 k1 l0 (x3_1.set (x4_1 : Int).toNat t195) (wrap64 (x4_1 + 1))) else (none)) = some r := H
       have A8 := A_ A80
       clear A80
       by_cases c9 : x4_1 < (x3_1.length : Int)
       ·rw [if_pos c9] at H
        have c9b0 : decide (x4_1 < (x3_1.length : Int)) = true := decide_eq_true c9
        clear c9
        obtain ⟨y198, hy198⟩ : ∃ y_ : List (List (S95)), y_ = (x3_1.set (x4_1 : Int).toNat t195) := ⟨_, rfl⟩
        replace H : (laws_toCellSS.l0 k1 l0 y198 (wrap64 (x4_1 + 1))) = some r := by first | (rw [hy198]; with_reducible exact H) | (have H2_ := (Option.bind_some _ _).symm.trans H; rw [hy198]; with_reducible exact H2_) | (have H2_ := (Option.bind_some _ _).symm.trans H; with_reducible exact H2_) | with_reducible exact H | (rw [hy198]; exact H) | exact H
        have Ny198 := A_ hy198
        clear hy198
        have H' := A_ H
        clear H
        have p194 : 0 ≤ (x4_1 : Int) := of_decide_eq_true Z12
        have q194 : x4_1 < (l0.length : Int) := of_decide_eq_true Z12
        obtain ⟨ad194, A194_0, c194_0, e194, hx194_0, hl194_0, hi194_0⟩ := at_L7 HR0.out x4_1 p194 q194
        cases e194
        replace hx194_0 := ZC HB.out hx194_0
        have HR194_0 := A_ hi194_0
        have HC194_0 := A_ hl194_0
        clear hi194_0 hl194_0
        replace p194 := eq_true p194
        replace q194 := eq_true q194
        go_wp2_with (first | ((with_reducible refine gate_callee (f := 21) rfl ?_); refine goesL_ (some 20) rfl rfl Try.func21 (by kernel_rfl) rfl #[.slice A194_0 (rd_L7 l0 x4_1).length c194_0] rfl Z5 ?_; (with_reducible refine (laws_toCellS.calls k1 _ _ (rd_L7 l0 x4_1) t195 _ ?side1 ?side2 A8.out).mono ?_); (case side1 => exact Z3 HR194_0.out); (case side2 => exact HC194_0.out); rintro e w11 ⟨v196, rfl, ho0, hb⟩; refine ⟨_, rfl, ?_⟩; have n0_ := A_ (Kd.R_elder' (Z14 HO_3.out) (Kd.S_base ho0) hb); have n1_ := A_ (Kd.S_lower ho0 (below_size Z1)); have n2_ := A_ (below_step Z1 hb); clear HO_3; clear HB; have HO_3 := n0_; have HO197 := n1_; have HB := n2_; clear n0_ n1_ n2_; (try clear hb); (try clear hb2); (try clear hk); (try clear hi); (try clear ho0); have p10 : 0 ≤ (x4_1 : Int) := of_decide_eq_true Z12; have q10 : (x4_1 : Int) < ((x3_1.length : Int) : Int) := of_decide_eq_true Z12; obtain ⟨go10, co10, eo10, gb10, gl10, cl10, HG10⟩ := Kd.R_form HO_3.out (by omega); (first | cases eo10 | (injection eo10 with ea_ en_ ec_; (first | subst ea_ | (injection ea_ with ea_; subst ea_)); subst ec_; clear en_)); have GB10 := A_ gb10; have GG10 := A_ HG10; clear gb10 gl10 HG10; obtain ⟨ce10, hcl10, hM10, hcc10, hfr10⟩ := Kd.R_elem HO_3.out [] (x4_1 : Int) p10 q10; obtain ⟨ve10_0, rfl, ge10_0⟩ := hM10; have hx10_0 := hcc10 0 _ rfl; have hf10_0 := hfr10 0; (try simp only [show ((Kd.slice 95 k95)).sz = 1 from rfl, Nat.mul_one, Nat.add_zero] at hx10_0); (try simp only [show ((Kd.slice 95 k95)).sz = 1 from rfl, Nat.mul_one, Nat.add_zero] at hf10_0); (try clear hM10); clear hcl10 hcc10 hfr10; replace p10 := eq_true p10; replace q10 := eq_true q10; have n_ := A_ (Kd.R_mono (ok' := (fun k_ => some k_ ≠ (v196 : Value).ownBlock)) HO_3.out (fun k_ hk => hk.2)); clear HO_3; have HO_3 := n_; clear n_; have HX12 := A_ (show Kd.R (Kd.slice 95 k95) 28 w11 w.heap.size (fun _ => True) (.slice (some ⟨go10, 0, none⟩) x3_1.length co10) x3_1 from (by (with_reducible repeat (first | apply Kd.R_alloc | apply Kd.R_drewN | apply Kd.R_drew)); exact Kd.R_mono HO_3.out (fun _ hk => trivial))); obtain ⟨ce12, hcl12, hM12, hcc12, hfr12⟩ := Kd.R_elem HX12.out [] (x4_1 : Int) (of_decide_eq_true Z12) (by have h_ : (x4_1 : Int) < ((x3_1.length : Int) : Int) := of_decide_eq_true Z12; first | exact h_ | (have e_ := (Kd.R_reads' HO_3.out).1; omega) | simpa using h_); obtain ⟨ve12_0, rfl, ge12_0⟩ := hM12; have HP12 := Kd.R_seg HX12.out (x4_1 : Int) (of_decide_eq_true Z12) (by have h_ : (x4_1 : Int) < ((x3_1.length : Int) : Int) := of_decide_eq_true Z12; first | exact h_ | (have e_ := (Kd.R_reads' HO_3.out).1; omega) | simpa using h_) (seg := [v196]) (j := 0) hcl12 hcc12 (show 1 ≤ 1 from by decide) (x' := t195) (Kd.M_row (Kd.R_mono (Kd.R_apart' ((Kd.S_R HO197.out)) (Kd.R_typed HO_3.out) (by decide)) (fun k_ hk => ⟨trivial, fun e_ => (hk.2) (by rw [e_]; rfl)⟩))) (fun _ hk => hk); have hx12_0 := hcc12 0 _ rfl; (try simp only [show ((Kd.slice 95 k95)).sz = 1 from rfl, Nat.mul_one, Nat.add_zero] at hx12_0); have hf12_0 := hfr12 0; (try simp only [show ((Kd.slice 95 k95)).sz = 1 from rfl, Nat.mul_one, Nat.add_zero] at hf12_0); (try clear hM12); clear hcl12 hcc12 hfr12; (try simp only [show ((Kd.slice 95 k95)).sz = 1 from rfl, Nat.mul_one, Nat.add_zero] at HP12)) | ((with_reducible refine gate_store (t := 28) (p := 21) rfl ?_); refine store_event (t := 28) (p := 21) (v := ?vo_w13) (w1 := (w11.setCell ⟨go10, (x4_1 : Int).toNat, none⟩ (v196))) ?hg ?ho ?hn ?hr ?_; (case ho => rfl); (case hg => rfl); (case hn => rfl); (case hr => first | (go_simp; done) | (go_simp; rfl) | ((first | (obtain ⟨_, _, ex196_⟩ := Kd.R_slice HO197.out; subst ex196_) | (obtain ⟨_, _, ex196_⟩ := Kd.S_slice HO197.out; subst ex196_) | (obtain ⟨_, _, ex196_⟩ := Kd.N_slice HO197.out; subst ex196_)); first | (go_simp; done) | (go_simp; rfl))); intro w13 hw; have hg : w11.grownBy w13 (some go10) := (by rw [hw]; exact HP12.2); have hp_ : Kd.R (Kd.slice 95 k95) 28 w13 w.heap.size (fun _ => True) (.slice (some ⟨go10, 0, none⟩) x3_1.length co10) y198 := (by rw [hw, Ny198.out]; exact HP12.1); clear HP12; have n0_ := A_ (hp_); have n1_ := A_ ((by rw [hw]; exact below_set (HB.out) GB10.out : Below w.heap.size w w13)); clear HO_3; clear HB; clear HO197; have HO_3 := n0_; have HB := n1_; clear n0_ n1_; clear hg hw hp_))
        go_roundg k1
        case measure => have := HK1.out; omega
        case rel => exact ⟨(y198), (wrap64 (x4_1 + 1)), Z17, H', ⟨by have := HK1.out; omega⟩, ⟨Z14 HO_3.out⟩, ⟨Z1⟩⟩
       ·rw [if_neg c9] at H
        exact absurd H (by simp)
      ·rw [if_neg c7] at H
       exact absurd H (by simp)
     ·rw [if_neg c6] at H
      have c6b0 : decide (x4_1 < (l0.length : Int)) = false := decide_eq_false c6
      clear c6
      obtain rfl := Option.some.inj H
      go_wp2
      go_ret
      exact ⟨_, Z11, Z14 HO_3.out, Z1⟩
  ·rw [if_neg c3] at H
   exact absurd H (by simp)
 ·rw [if_neg c2] at H
  exact absurd H (by simp)
def laws_toHist.f (k : Nat) (l0_0 : List (S86)) (l0_1 : List (List (S86))) (l0_2 : List (List (S86))) : Option ((List (S95)) × (List (List (S95))) × (List (List (S95)))) := (laws_toCellS.f k l0_0).bind fun t202 => ((laws_toCellSS.f k l0_1).bind fun t205 => ((laws_toCellSS.f k l0_2).bind fun t208 => (some (t202, t205, t208))))
theorem laws_toHist.mono : ∀ a0 a1 a2 k, LeO (laws_toHist.f k a0 a1 a2) (laws_toHist.f (k + 1) a0 a1 a2) := by
 intro a0 a1 a2 k
 unfold laws_toHist.f
 repeat' first
   | (with_reducible exact laws_toCellS.mono _ _)
   | (with_reducible exact laws_toCellSS.mono _ _)
   | (with_reducible exact LeO.refl _)
   | (with_reducible exact LeO.none _)
   | (with_reducible refine LeO.ite ?_ ?_)
   | (with_reducible refine LeO.bind ?_ (fun _ => ?_))
   | exact laws_toCellS.mono _ _
   | exact laws_toCellSS.mono _ _
   | exact LeO.none _
   | refine LeO.ite ?_ ?_
   | refine LeO.bind ?_ (fun _ => ?_)
set_option maxHeartbeats 8000000 in
set_option maxRecDepth 100000 in
theorem laws_toHist.calls (k : Nat) (A0_0 : Option Addr) (c0_0 : Nat) (l0_0 : List (S86)) (A0_1 : Option Addr) (c0_1 : Nat) (l0_1 : List (List (S86))) (A0_2 : Option Addr) (c0_2 : Nat) (l0_2 : List (List (S86))) (r1 : List (S95)) (r2 : List (List (S95))) (r3 : List (List (S95))) (w : World) (hr0_0 : Kd.C k86 w A0_0 l0_0.length l0_0) (hc0_0 : l0_0.length ≤ c0_0) (hr0_1 : Kd.C (Kd.slice 86 k86) w A0_1 l0_1.length l0_1) (hc0_1 : l0_1.length ≤ c0_1) (hr0_2 : Kd.C (Kd.slice 86 k86) w A0_2 l0_2.length l0_2) (hc0_2 : l0_2.length ≤ c0_2) (h : laws_toHist.f k l0_0 l0_1 l0_2 = some (r1, r2, r3)) :
  Calls Try.prog 10 #[.agg #[.slice A0_0 l0_0.length c0_0, .slice A0_1 l0_1.length c0_1, .slice A0_2 l0_2.length c0_2]] w fun e w' => ∃ v0_ v1_ v2_ : Value, e = .returned (.agg #[v0_, v1_, v2_]) ∧ Kd.S k95 95 w' w.heap.size (fun _ => True) v0_ r1 ∧ Kd.R (Kd.slice 95 k95) 28 w' w.heap.size (fun k_ => some k_ ≠ (v0_ : Value).ownBlock ∧ some k_ ≠ (v2_ : Value).ownBlock) v1_ r2 ∧ Kd.R (Kd.slice 95 k95) 28 w' w.heap.size (fun k_ => some k_ ≠ (v0_ : Value).ownBlock ∧ some k_ ≠ (v1_ : Value).ownBlock) v2_ r3 ∧ Below w.heap.size w w' := by
 have hu25 := Try.underlying25
 have hu31 := Try.underlying31
 have HR0_0 := A_ hr0_0
 have HC0_0 := A_ hc0_0
 clear hr0_0 hc0_0
 have HR0_1 := A_ hr0_1
 have HC0_1 := A_ hc0_1
 clear hr0_1 hc0_1
 have HR0_2 := A_ hr0_2
 have HC0_2 := A_ hc0_2
 clear hr0_2 hc0_2
 have HB := A_ (Below.refl w.heap.size w)
 have H : ((laws_toCellS.f k l0_0).bind fun t202 => ((laws_toCellSS.f k l0_1).bind fun t205 => ((laws_toCellSS.f k l0_2).bind fun t208 => (some (t202, t205, t208))))) = some (r1, r2, r3) := h
 clear h
 replace H := Option.bind_eq_some_iff.mp H
 obtain ⟨t202, A20, H⟩ := H
 replace H : ((laws_toCellSS.f k l0_1).bind fun t205 => ((laws_toCellSS.f k l0_2).bind fun t208 => (some (t202, t205, t208)))) = some (r1, r2, r3) := H
 have A2 := A_ A20
 clear A20
 replace H := Option.bind_eq_some_iff.mp H
 obtain ⟨t205, A30, H⟩ := H
 replace H : ((laws_toCellSS.f k l0_2).bind fun t208 => (some (t202, t205, t208))) = some (r1, r2, r3) := H
 have A3 := A_ A30
 clear A30
 replace H := Option.bind_eq_some_iff.mp H
 obtain ⟨t208, A40, H⟩ := H
 replace H : (some (t202, t205, t208)) = some (r1, r2, r3) := H
 have A4 := A_ A40
 clear A40
 simp only [Option.some.injEq, Prod.mk.injEq] at H
 obtain ⟨rfl, rfl, rfl⟩ := H
 go_enter Try.func10, Try.ntmps10
 go_wp2_with (first | ((with_reducible refine gate_dst (N := 1) rfl ?_); refine box_event ?hg (N := 1) ?hd (cs := #[.slice A0_0 l0_0.length c0_0, .slice A0_1 l0_1.length c0_1, .slice A0_2 l0_2.length c0_2]) (t := 25) ?hr ?_; (case hd => rfl); (case hg => rfl); (case hr => exact Z16); intro gb199 hg w5 hbox hb; have n0_ := A_ (below_step Z1 hb); have n1_ := A_ (hbox); have n2_ := A_ ((by rw [hg]; exact (below_size Z1) : w.heap.size ≤ gb199)); have n3_ := A_ ((by rw [hg]; exact (below_size Z1) : w.heap.size ≤ gb199)); clear HB; have HB := n0_; have BK199 := n1_; have GW199 := n2_; have GE199 := n3_; clear n0_ n1_ n2_ n3_; clear hb hbox hg) | ((with_reducible refine gate_dst (N := 2) rfl ?_); refine box_event ?hg (N := 2) ?hd (cs := #[.slice none 0 0, .slice none 0 0, .slice none 0 0]) (t := 31) ?hr ?_; (case hd => rfl); (case hg => rfl); (case hr => exact Z16); intro gb200 hg w6 hbox hb; have n0_ := A_ (blk_below (g := gb199) (o := .cells #[.slice A0_0 l0_0.length c0_0, .slice A0_1 l0_1.length c0_1, .slice A0_2 l0_2.length c0_2] 25 (0, 0)) (Z4 BK199.out) hb); have n1_ := A_ (below_step (Z2 GE199.out) hb); have n2_ := A_ (hbox); have n3_ := A_ ((by rw [hg]; exact (below_size (Z2 GE199.out)) : w.heap.size ≤ gb200)); have n4_ := A_ ((by rw [hg]; exact (below_size (Z2 GE199.out)) : w.heap.size ≤ gb200)); have n5_ := A_ ((by rw [hg]; exact Nat.ne_of_lt (blk_lt (g := gb199) (o := .cells #[.slice A0_0 l0_0.length c0_0, .slice A0_1 l0_1.length c0_1, .slice A0_2 l0_2.length c0_2] 25 (0, 0)) (Z4 BK199.out)) : gb199 ≠ gb200)); have n6_ := A_ ((by rw [hg]; exact Nat.ne_of_gt (blk_lt (g := gb199) (o := .cells #[.slice A0_0 l0_0.length c0_0, .slice A0_1 l0_1.length c0_1, .slice A0_2 l0_2.length c0_2] 25 (0, 0)) (Z4 BK199.out)) : gb200 ≠ gb199)); clear BK199; clear HB; have BK199 := n0_; have HB := n1_; have BK200 := n2_; have GW200 := n3_; have GE200 := n4_; have NB199_200 := n5_; have NB200_199 := n6_; clear n0_ n1_ n2_ n3_ n4_ n5_ n6_; clear hb hbox hg) | ((with_reducible refine gate_dst (N := 3) rfl ?_); refine box_event ?hg (N := 3) ?hd (cs := #[.slice none 0 0, .slice none 0 0, .slice none 0 0]) (t := 31) ?hr ?_; (case hd => rfl); (case hg => rfl); (case hr => exact Z16); intro gb201 hg w7 hbox hb; have n0_ := A_ (blk_below (g := gb199) (o := .cells #[.slice A0_0 l0_0.length c0_0, .slice A0_1 l0_1.length c0_1, .slice A0_2 l0_2.length c0_2] 25 (0, 0)) (Z4 BK199.out) hb); have n1_ := A_ (blk_below (g := gb200) (o := .cells #[.slice none 0 0, .slice none 0 0, .slice none 0 0] 31 (0, 0)) (Z4 BK200.out) hb); have n2_ := A_ (below_step (Z10 GE199.out GE200.out) hb); have n3_ := A_ (hbox); have n4_ := A_ ((by rw [hg]; exact (below_size (Z10 GE199.out GE200.out)) : w.heap.size ≤ gb201)); have n5_ := A_ ((by rw [hg]; exact (below_size (Z10 GE199.out GE200.out)) : w.heap.size ≤ gb201)); have n6_ := A_ ((by rw [hg]; exact Nat.ne_of_lt (blk_lt (g := gb199) (o := .cells #[.slice A0_0 l0_0.length c0_0, .slice A0_1 l0_1.length c0_1, .slice A0_2 l0_2.length c0_2] 25 (0, 0)) (Z4 BK199.out)) : gb199 ≠ gb201)); have n7_ := A_ ((by rw [hg]; exact Nat.ne_of_gt (blk_lt (g := gb199) (o := .cells #[.slice A0_0 l0_0.length c0_0, .slice A0_1 l0_1.length c0_1, .slice A0_2 l0_2.length c0_2] 25 (0, 0)) (Z4 BK199.out)) : gb201 ≠ gb199)); have n8_ := A_ ((by rw [hg]; exact Nat.ne_of_lt (blk_lt (g := gb200) (o := .cells #[.slice none 0 0, .slice none 0 0, .slice none 0 0] 31 (0, 0)) (Z4 BK200.out)) : gb200 ≠ gb201)); have n9_ := A_ ((by rw [hg]; exact Nat.ne_of_gt (blk_lt (g := gb200) (o := .cells #[.slice none 0 0, .slice none 0 0, .slice none 0 0] 31 (0, 0)) (Z4 BK200.out)) : gb201 ≠ gb200)); clear BK199; clear BK200; clear HB; have BK199 := n0_; have BK200 := n1_; have HB := n2_; have BK201 := n3_; have GW201 := n4_; have GE201 := n5_; have NB199_201 := n6_; have NB201_199 := n7_; have NB200_201 := n8_; have NB201_200 := n9_; clear n0_ n1_ n2_ n3_ n4_ n5_ n6_ n7_ n8_ n9_; clear hb hbox hg; have hnb8 := NB199_200.out; have hnc8 := NB200_199.out; have hnb9 := NB199_201.out; have hnc9 := NB201_199.out; have hcz10_0 : w7.cell? ⟨gb199, 0, none⟩ = some (.slice A0_0 l0_0.length c0_0) := (blk_cell BK199.out 0).trans rfl; have hcz10_1 : w7.cell? ⟨gb199, 1, none⟩ = some (.slice A0_1 l0_1.length c0_1) := (blk_cell BK199.out 1).trans rfl; have hcz10_2 : w7.cell? ⟨gb199, 2, none⟩ = some (.slice A0_2 l0_2.length c0_2) := (blk_cell BK199.out 2).trans rfl; have hfz10_0 := blk_frozen BK199.out 0; have hfz10_1 := blk_frozen BK199.out 1; have hfz10_2 := blk_frozen BK199.out 2) | ((with_reducible refine gate_callee (f := 21) rfl ?_); refine goesL_ (some 6) rfl rfl Try.func21 (by kernel_rfl) rfl #[.slice A0_0 l0_0.length c0_0] rfl Z5 ?_; (with_reducible refine (laws_toCellS.calls k _ _ l0_0 t202 _ ?side1 ?side2 A2.out).mono ?_); (case side1 => exact Z3 HR0_0.out); (case side2 => exact HC0_0.out); rintro e w11 ⟨v203, rfl, ho0, hb⟩; refine ⟨_, rfl, ?_⟩; have n0_ := A_ (Kd.S_lower ho0 (below_size Z24)); have n1_ := A_ (blk_below (g := gb199) (o := .cells #[.slice A0_0 l0_0.length c0_0, .slice A0_1 l0_1.length c0_1, .slice A0_2 l0_2.length c0_2] 25 (0, 0)) (Z4 BK199.out) hb); have n2_ := A_ (blk_below (g := gb200) (o := .cells #[.slice none 0 0, .slice none 0 0, .slice none 0 0] 31 (0, 0)) (Z4 BK200.out) hb); have n3_ := A_ (blk_below (g := gb201) (o := .cells #[.slice none 0 0, .slice none 0 0, .slice none 0 0] 31 (0, 0)) (Z4 BK201.out) hb); have n4_ := A_ (below_step Z24 hb); clear BK199; clear BK200; clear BK201; clear HB; have HO204 := n0_; have BK199 := n1_; have BK200 := n2_; have BK201 := n3_; have HB := n4_; clear n0_ n1_ n2_ n3_ n4_; (try clear hb); (try clear hb2); (try clear hk); (try clear hi); (try clear ho0); obtain ⟨Ao12, co12, eo12⟩ := Kd.S_slice HO204.out; subst eo12; have hnb13 := NB201_200.out; have hnc13 := NB200_201.out; have hcz14_0 : w11.cell? ⟨gb201, 0, none⟩ = some (.slice none 0 0) := (blk_cell BK201.out 0).trans rfl; have hcz14_1 : w11.cell? ⟨gb201, 1, none⟩ = some (.slice none 0 0) := (blk_cell BK201.out 1).trans rfl; have hcz14_2 : w11.cell? ⟨gb201, 2, none⟩ = some (.slice none 0 0) := (blk_cell BK201.out 2).trans rfl; have hfz14_0 := blk_frozen BK201.out 0; have hfz14_1 := blk_frozen BK201.out 1; have hfz14_2 := blk_frozen BK201.out 2; have hcz15_0 : w11.cell? ⟨gb199, 0, none⟩ = some (.slice A0_0 l0_0.length c0_0) := (blk_cell BK199.out 0).trans rfl; have hcz15_1 : w11.cell? ⟨gb199, 1, none⟩ = some (.slice A0_1 l0_1.length c0_1) := (blk_cell BK199.out 1).trans rfl; have hcz15_2 : w11.cell? ⟨gb199, 2, none⟩ = some (.slice A0_2 l0_2.length c0_2) := (blk_cell BK199.out 2).trans rfl; have hfz15_0 := blk_frozen BK199.out 0; have hfz15_1 := blk_frozen BK199.out 1; have hfz15_2 := blk_frozen BK199.out 2) | ((with_reducible refine gate_callee (f := 35) rfl ?_); refine goesL_ (some 10) rfl rfl Try.func35 (by kernel_rfl) rfl #[.slice A0_1 l0_1.length c0_1] rfl Z5 ?_; (with_reducible refine (laws_toCellSS.calls k _ _ l0_1 t205 _ ?side1 ?side2 A3.out).mono ?_); (case side1 => exact Kd.C_below HR0_1.out Z24); (case side2 => exact HC0_1.out); rintro e w16 ⟨v206, rfl, ho0, hb⟩; refine ⟨_, rfl, ?_⟩; have n0_ := A_ (Kd.S_below (by (with_reducible repeat (first | apply Kd.S_alloc | apply Kd.S_drewN | apply Kd.S_drew)); exact (Kd.S_mono (Kd.S_far (p := ⟨gb201, 0, none⟩) (Kd.S_types HO204.out BK201.out (by decide)) (fun _ hk => hk.2) (.slice Ao12 t202.length co12)) (fun _ h_ => h_.1))) hb); have n1_ := A_ (Kd.R_lower (Kd.R_new' ho0 (Kd.S_lt (by (with_reducible repeat (first | apply Kd.S_alloc | apply Kd.S_drewN | apply Kd.S_drew)); exact (Kd.S_mono (Kd.S_far (p := ⟨gb201, 0, none⟩) (Kd.S_types HO204.out BK201.out (by decide)) (fun _ hk => hk.2) (.slice Ao12 t202.length co12)) (fun _ h_ => h_.1))))) (below_size Z24)); have n2_ := A_ (blk_below (g := gb199) (o := .cells #[.slice A0_0 l0_0.length c0_0, .slice A0_1 l0_1.length c0_1, .slice A0_2 l0_2.length c0_2] 25 (0, 0)) (Z27 NB199_201.out BK199.out) hb); have n3_ := A_ (blk_below (g := gb200) (o := .cells #[.slice none 0 0, .slice none 0 0, .slice none 0 0] 31 (0, 0)) (Z27 NB200_201.out BK200.out) hb); have n4_ := A_ (blk_below (g := gb201) (o := .cells #[.slice Ao12 t202.length co12, .slice none 0 0, .slice none 0 0] 31 (0, 0)) (by (with_reducible repeat (first | refine blk_drewN ?_ _ | refine blk_drew ?_ | refine blk_alloc ?_ _)); refine blk_put (cs := #[.slice none 0 0, .slice none 0 0, .slice none 0 0]) ?_ 0 _ rfl; (with_reducible repeat (first | refine blk_drewN ?_ _ | refine blk_drew ?_ | refine blk_alloc ?_ _)); exact BK201.out) hb); have n5_ := A_ (below_step Z24 hb); clear HO204; clear BK199; clear BK200; clear BK201; clear HB; have HO204 := n0_; have HO207 := n1_; have BK199 := n2_; have BK200 := n3_; have BK201 := n4_; have HB := n5_; clear n0_ n1_ n2_ n3_ n4_ n5_; (try clear hb); (try clear hb2); (try clear hk); (try clear hi); (try clear ho0); obtain ⟨Ao17, co17, eo17⟩ := Kd.R_slice HO207.out; subst eo17; have hcz18_0 : w16.cell? ⟨gb201, 0, none⟩ = some (.slice Ao12 t202.length co12) := (blk_cell BK201.out 0).trans rfl; have hcz18_1 : w16.cell? ⟨gb201, 1, none⟩ = some (.slice none 0 0) := (blk_cell BK201.out 1).trans rfl; have hcz18_2 : w16.cell? ⟨gb201, 2, none⟩ = some (.slice none 0 0) := (blk_cell BK201.out 2).trans rfl; have hfz18_0 := blk_frozen BK201.out 0; have hfz18_1 := blk_frozen BK201.out 1; have hfz18_2 := blk_frozen BK201.out 2; have hcz19_0 : w16.cell? ⟨gb199, 0, none⟩ = some (.slice A0_0 l0_0.length c0_0) := (blk_cell BK199.out 0).trans rfl; have hcz19_1 : w16.cell? ⟨gb199, 1, none⟩ = some (.slice A0_1 l0_1.length c0_1) := (blk_cell BK199.out 1).trans rfl; have hcz19_2 : w16.cell? ⟨gb199, 2, none⟩ = some (.slice A0_2 l0_2.length c0_2) := (blk_cell BK199.out 2).trans rfl; have hfz19_0 := blk_frozen BK199.out 0; have hfz19_1 := blk_frozen BK199.out 1; have hfz19_2 := blk_frozen BK199.out 2) | ((with_reducible refine gate_callee (f := 35) rfl ?_); refine goesL_ (some 14) rfl rfl Try.func35 (by kernel_rfl) rfl #[.slice A0_2 l0_2.length c0_2] rfl Z5 ?_; (with_reducible refine (laws_toCellSS.calls k _ _ l0_2 t208 _ ?side1 ?side2 A4.out).mono ?_); (case side1 => exact Kd.C_below HR0_2.out Z24); (case side2 => exact HC0_2.out); rintro e w20 ⟨v209, rfl, ho0, hb⟩; refine ⟨_, rfl, ?_⟩; have n0_ := A_ (Kd.S_below (by (with_reducible repeat (first | apply Kd.S_alloc | apply Kd.S_drewN | apply Kd.S_drew)); exact (Kd.S_mono (Kd.S_far (p := ⟨gb201, 1, none⟩) (Kd.S_types HO204.out BK201.out (by decide)) (fun _ hk => hk.2) (.slice Ao17 t205.length co17)) (fun _ h_ => h_.1))) hb); have n1_ := A_ (Kd.R_elder' (by (with_reducible repeat (first | apply Kd.R_alloc | apply Kd.R_drewN | apply Kd.R_drew)); exact (Kd.R_mono (Kd.R_far (p := ⟨gb201, 1, none⟩) (Kd.R_types HO207.out BK201.out (by decide)) (fun _ hk => hk.2) (.slice Ao17 t205.length co17)) (fun _ h_ => h_.1))) (Kd.R_base ho0) hb); have n2_ := A_ (Kd.R_lower (Kd.R_new' (Kd.R_new' ho0 (Kd.S_lt (by (with_reducible repeat (first | apply Kd.S_alloc | apply Kd.S_drewN | apply Kd.S_drew)); exact (Kd.S_mono (Kd.S_far (p := ⟨gb201, 1, none⟩) (Kd.S_types HO204.out BK201.out (by decide)) (fun _ hk => hk.2) (.slice Ao17 t205.length co17)) (fun _ h_ => h_.1))))) (Kd.R_lt (by (with_reducible repeat (first | apply Kd.R_alloc | apply Kd.R_drewN | apply Kd.R_drew)); exact (Kd.R_mono (Kd.R_far (p := ⟨gb201, 1, none⟩) (Kd.R_types HO207.out BK201.out (by decide)) (fun _ hk => hk.2) (.slice Ao17 t205.length co17)) (fun _ h_ => h_.1))))) (below_size Z24)); have n3_ := A_ (blk_below (g := gb199) (o := .cells #[.slice A0_0 l0_0.length c0_0, .slice A0_1 l0_1.length c0_1, .slice A0_2 l0_2.length c0_2] 25 (0, 0)) (Z27 NB199_201.out BK199.out) hb); have n4_ := A_ (blk_below (g := gb200) (o := .cells #[.slice none 0 0, .slice none 0 0, .slice none 0 0] 31 (0, 0)) (Z27 NB200_201.out BK200.out) hb); have n5_ := A_ (blk_below (g := gb201) (o := .cells #[.slice Ao12 t202.length co12, .slice Ao17 t205.length co17, .slice none 0 0] 31 (0, 0)) (by (with_reducible repeat (first | refine blk_drewN ?_ _ | refine blk_drew ?_ | refine blk_alloc ?_ _)); refine blk_put (cs := #[.slice Ao12 t202.length co12, .slice none 0 0, .slice none 0 0]) ?_ 1 _ rfl; (with_reducible repeat (first | refine blk_drewN ?_ _ | refine blk_drew ?_ | refine blk_alloc ?_ _)); exact BK201.out) hb); have n6_ := A_ (below_step Z24 hb); clear HO204; clear HO207; clear BK199; clear BK200; clear BK201; clear HB; have HO204 := n0_; have HO207 := n1_; have HO210 := n2_; have BK199 := n3_; have BK200 := n4_; have BK201 := n5_; have HB := n6_; clear n0_ n1_ n2_ n3_ n4_ n5_ n6_; (try clear hb); (try clear hb2); (try clear hk); (try clear hi); (try clear ho0); obtain ⟨Ao21, co21, eo21⟩ := Kd.R_slice HO210.out; subst eo21; have hcz22_0 : w20.cell? ⟨gb201, 0, none⟩ = some (.slice Ao12 t202.length co12) := (blk_cell BK201.out 0).trans rfl; have hcz22_1 : w20.cell? ⟨gb201, 1, none⟩ = some (.slice Ao17 t205.length co17) := (blk_cell BK201.out 1).trans rfl; have hcz22_2 : w20.cell? ⟨gb201, 2, none⟩ = some (.slice none 0 0) := (blk_cell BK201.out 2).trans rfl; have hfz22_0 := blk_frozen BK201.out 0; have hfz22_1 := blk_frozen BK201.out 1; have hfz22_2 := blk_frozen BK201.out 2; have hcz23_0 : w20.cell? ⟨gb200, 0, none⟩ = some (.slice none 0 0) := (blk_cell BK200.out 0).trans rfl; have hcz23_1 : w20.cell? ⟨gb200, 1, none⟩ = some (.slice none 0 0) := (blk_cell BK200.out 1).trans rfl; have hcz23_2 : w20.cell? ⟨gb200, 2, none⟩ = some (.slice none 0 0) := (blk_cell BK200.out 2).trans rfl; have hfz23_0 := blk_frozen BK200.out 0; have hfz23_1 := blk_frozen BK200.out 1; have hfz23_2 := blk_frozen BK200.out 2))
 refine bodyPost_ret (results_cell_row rfl _ _ gb200 31 #[.slice Ao12 t202.length co12, .slice Ao17 t205.length co17, .slice Ao21 t208.length co21] (0, 0) _ rfl (by (with_reducible repeat (first | refine blk_drewN ?_ _ | refine blk_drew ?_ | refine blk_alloc ?_ _)); refine blk_put (cs := #[.slice Ao12 t202.length co12, .slice Ao17 t205.length co17, .slice none 0 0]) ?_ 2 _ rfl; (with_reducible repeat (first | refine blk_drewN ?_ _ | refine blk_drew ?_ | refine blk_alloc ?_ _)); refine blk_put (cs := #[.slice Ao12 t202.length co12, .slice none 0 0, .slice none 0 0]) ?_ 1 _ rfl; (with_reducible repeat (first | refine blk_drewN ?_ _ | refine blk_drew ?_ | refine blk_alloc ?_ _)); refine blk_put (cs := #[.slice none 0 0, .slice none 0 0, .slice none 0 0]) ?_ 0 _ rfl; (with_reducible repeat (first | refine blk_drewN ?_ _ | refine blk_drew ?_ | refine blk_alloc ?_ _)); refine blk_far ?_ NB200_201.out _; (with_reducible repeat (first | refine blk_drewN ?_ _ | refine blk_drew ?_ | refine blk_alloc ?_ _)); exact BK200.out) Try.underlying31 rfl (by kernel_rfl)) rfl ?_
 exact ⟨_, _, _, Z11, by (with_reducible repeat (first | apply Kd.S_alloc | apply Kd.S_drewN | apply Kd.S_drew)); exact Kd.S_mono (Kd.S_far (p := ⟨gb200, 2, none⟩) (Kd.S_far (p := ⟨gb200, 1, none⟩) (Kd.S_far (p := ⟨gb200, 0, none⟩) (Kd.S_far (p := ⟨gb201, 2, none⟩) (Kd.S_types (Kd.S_types HO204.out BK201.out (by decide)) BK200.out (by decide)) (fun _ hk => hk.1.2) (.slice Ao21 t208.length co21)) (fun _ hk => hk.2) (.slice Ao12 t202.length co12)) (fun _ hk => hk.2) (.slice Ao17 t205.length co17)) (fun _ hk => hk.2) (.slice Ao21 t208.length co21)) (fun _ hk => trivial), by (with_reducible repeat (first | apply Kd.R_alloc | apply Kd.R_drewN | apply Kd.R_drew)); exact Kd.R_mono (Kd.R_far (p := ⟨gb200, 2, none⟩) (Kd.R_far (p := ⟨gb200, 1, none⟩) (Kd.R_far (p := ⟨gb200, 0, none⟩) (Kd.R_far (p := ⟨gb201, 2, none⟩) (Kd.R_types (Kd.R_types HO207.out BK201.out (by decide)) BK200.out (by decide)) (fun _ hk => hk.1.2) (.slice Ao21 t208.length co21)) (fun _ hk => hk.2) (.slice Ao12 t202.length co12)) (fun _ hk => hk.2) (.slice Ao17 t205.length co17)) (fun _ hk => hk.2) (.slice Ao21 t208.length co21)) (fun _ hk => ⟨hk.1.1.1.2, hk.1.1.2⟩), by (with_reducible repeat (first | apply Kd.R_alloc | apply Kd.R_drewN | apply Kd.R_drew)); exact Kd.R_mono (Kd.R_far (p := ⟨gb200, 2, none⟩) (Kd.R_far (p := ⟨gb200, 1, none⟩) (Kd.R_far (p := ⟨gb200, 0, none⟩) (Kd.R_far (p := ⟨gb201, 2, none⟩) (Kd.R_types (Kd.R_types HO210.out BK201.out (by decide)) BK200.out (by decide)) (fun _ hk => hk.1.2) (.slice Ao21 t208.length co21)) (fun _ hk => hk.2) (.slice Ao12 t202.length co12)) (fun _ hk => hk.2) (.slice Ao17 t205.length co17)) (fun _ hk => hk.2) (.slice Ao21 t208.length co21)) (fun _ hk => ⟨hk.1.1.1.2, hk.1.1.2⟩), Z24⟩
def impl_within.f (a0 : Int) (a1 : Int) (a2 : Int) : Option (Bool) := if a0 ≥ a1 then (some (decide (a0 ≤ a2))) else (some false)
set_option maxHeartbeats 8000000 in
set_option maxRecDepth 100000 in
theorem impl_within.calls (a0 : Int) (a1 : Int) (a2 : Int) (r : Bool) (w : World) (h : impl_within.f a0 a1 a2 = some r) :
  Calls Try.prog 71 #[.int .i64 a0, .int .i64 a1, .int .i64 a2] w fun e w' => e = .returned (.bool r) ∧ Drawn0 w w' := by
 have H : (if a0 ≥ a1 then (some (decide (a0 ≤ a2))) else (some false)) = some r := h
 clear h
 by_cases c4 : a0 ≥ a1
 ·rw [if_pos c4] at H
  have c4b0 : decide (a1 ≤ a0) = true := decide_eq_true c4
  clear c4
  obtain rfl := Option.some.inj H
  go_enter Try.func71, Try.ntmps71
  go_wp2
  go_ret
  exact ⟨Z17, Z23⟩
 ·rw [if_neg c4] at H
  have c4b0 : decide (a1 ≤ a0) = false := decide_eq_false c4
  clear c4
  obtain rfl := Option.some.inj H
  go_enter Try.func71, Try.ntmps71
  go_wp2
  go_ret
  exact ⟨Z17, Z23⟩
def impl_PlaceOk.l0 : Nat → List (S121) → List (S121) → Int → Int → Option (Bool)
 | 0, _, _, _, _ => none
 | k + 1, x0, x5, x6, x7 => if x7 < x6 then (if 0 ≤ x7 then (if x7 < (x5.length : Int) then ((impl_within.f ((rd_T121 x5 x7).f0) 0 3).bind fun t213 => (if t213 = true then ((impl_within.f ((rd_T121 x5 x7).f1) 0 103).bind fun t214 => (if t214 = true then (impl_PlaceOk.l0 k x0 x5 x6 (wrap64 (x7 + 1))) else (some false))) else (some false))) else (none)) else (none)) else (some (decide ((x0.length : Int) ≤ 20)))
def impl_PlaceOk.f (k : Nat) (l0 : List (S121)) : Option (Bool) := impl_PlaceOk.l0 k l0 l0 (l0.length : Int) 0
theorem impl_PlaceOk.mono_l : ∀ k, (∀ y0 y1 y2 y3, LeO (impl_PlaceOk.l0 k y0 y1 y2 y3) (impl_PlaceOk.l0 (k + 1) y0 y1 y2 y3))
 | 0 => fun _ _ _ _ r h => by simp [impl_PlaceOk.l0] at h
 | k + 1 => by
  have ih0 := impl_PlaceOk.mono_l k
  ·intro y0 y1 y2 y3
   unfold impl_PlaceOk.l0
   repeat' first
   | (with_reducible exact ih0 _ _ _ _)
   | (with_reducible exact LeO.refl _)
   | (with_reducible exact LeO.none _)
   | (with_reducible refine LeO.ite ?_ ?_)
   | (with_reducible refine LeO.bind ?_ (fun _ => ?_))
   | exact ih0 _ _ _ _
   | exact LeO.none _
   | refine LeO.ite ?_ ?_
   | refine LeO.bind ?_ (fun _ => ?_)
theorem impl_PlaceOk.mono : ∀ a0 k, LeO (impl_PlaceOk.f k a0) (impl_PlaceOk.f (k + 1) a0) := by
 intro a0 k
 have ih0 := impl_PlaceOk.mono_l k
 unfold impl_PlaceOk.f
 repeat' first
   | (with_reducible exact ih0 _ _ _ _)
   | (with_reducible exact LeO.refl _)
   | (with_reducible exact LeO.none _)
   | (with_reducible refine LeO.ite ?_ ?_)
   | (with_reducible refine LeO.bind ?_ (fun _ => ?_))
   | exact ih0 _ _ _ _
   | exact LeO.none _
   | refine LeO.ite ?_ ?_
   | refine LeO.bind ?_ (fun _ => ?_)
set_option maxHeartbeats 8000000 in
set_option maxRecDepth 100000 in
theorem impl_PlaceOk.calls (k : Nat) (A0 : Option Addr) (c0 : Nat) (l0 : List (S121)) (r : Bool) (w : World) (hr0 : Kd.C k121 w A0 l0.length l0) (hc0 : l0.length ≤ c0) (h : impl_PlaceOk.f k l0 = some r) :
  Calls Try.prog 67 #[.slice A0 l0.length c0] w fun e w' => e = .returned (.bool r) ∧ Below w.heap.size w w' := by
 have hu121 := Try.underlying121
 have HR0 := A_ hr0
 have HC0 := A_ hc0
 clear hr0 hc0
 have HB := A_ (Below.refl w.heap.size w)
 have H : (impl_PlaceOk.l0 k l0 l0 (l0.length : Int) 0) = some r := h
 clear h
 have H' := A_ H
 clear H
 go_enter Try.func67, Try.ntmps67
 go_wp2
 go_loopg [7] k (fun kq v7 w' => ∃ (x7_1 : Int), v7 = .int .i64 x7_1 ∧ Aside0 (impl_PlaceOk.l0 kq l0 l0 (l0.length : Int) x7_1 = some r) ∧ Aside0 (kq ≤ k) ∧ Aside0 (Below w.heap.size w w'))
 case atStart => exact ⟨(0), Z17, H', ⟨Nat.le_refl _⟩, ⟨Z1⟩⟩
 case round =>
  clear H'
  obtain ⟨x7_1, rfl, HA, HK1, HB⟩ := hrel
  cases gk with
  | zero => exact absurd HA.out (by simp [impl_PlaceOk.l0])
  | succ k1 =>
   have H := HA.out
   clear HA
   simp only [impl_PlaceOk.l0] at H
   by_cases c2 : x7_1 < (l0.length : Int)
   ·rw [if_pos c2] at H
    have c2b0 : decide (x7_1 < (l0.length : Int)) = true := decide_eq_true c2
    clear c2
    by_cases c3 : 0 ≤ x7_1
    ·rw [if_pos c3] at H
     have c3b0 : decide (0 ≤ x7_1) = true := decide_eq_true c3
     clear c3
     by_cases c4 : x7_1 < (l0.length : Int)
     ·rw [if_pos c4] at H
      have c4b0 : decide (x7_1 < (l0.length : Int)) = true := decide_eq_true c4
      clear c4
      replace H := Option.bind_eq_some_iff.mp H
      obtain ⟨t213, A50, H⟩ := H
      replace H : (if t213 = true then ((impl_within.f ((rd_T121 l0 x7_1).f1) 0 103).bind fun t214 => (if t214 = true then (impl_PlaceOk.l0 k1 l0 l0 (l0.length : Int) (wrap64 (x7_1 + 1))) else (some false))) else (some false)) = some r := H
      have A5 := A_ A50
      clear A50
      by_cases c6 : t213 = true
      ·subst c6
       have H1 : ((impl_within.f ((rd_T121 l0 x7_1).f1) 0 103).bind fun t214 => (if t214 = true then (impl_PlaceOk.l0 k1 l0 l0 (l0.length : Int) (wrap64 (x7_1 + 1))) else (some false))) = some r := by rw [if_pos rfl] at H; exact H
       clear H
       have H := H1
       clear H1
       replace H := Option.bind_eq_some_iff.mp H
       obtain ⟨t214, A70, H⟩ := H
       replace H : (if t214 = true then (impl_PlaceOk.l0 k1 l0 l0 (l0.length : Int) (wrap64 (x7_1 + 1))) else (some false)) = some r := H
       have A7 := A_ A70
       clear A70
       by_cases c8 : t214 = true
       ·subst c8
        have H1 : (impl_PlaceOk.l0 k1 l0 l0 (l0.length : Int) (wrap64 (x7_1 + 1))) = some r := by rw [if_pos rfl] at H; exact H
        clear H
        have H := H1
        clear H1
        have H' := A_ H
        clear H
        have p211 : 0 ≤ (x7_1 : Int) := of_decide_eq_true Z12
        have q211 : x7_1 < (l0.length : Int) := of_decide_eq_true Z12
        obtain ⟨ad211, e211, hx211_0, hx211_1⟩ := at_T121 HR0.out x7_1 p211 q211
        cases e211
        replace hx211_0 := ZC HB.out hx211_0
        replace hx211_1 := ZC HB.out hx211_1
        replace p211 := eq_true p211
        replace q211 := eq_true q211
        go_wp2_with (first | ((with_reducible refine gate_dst (N := 4) rfl ?_); refine box_event ?hg (N := 4) ?hd (cs := #[.int .i64 0, .int .i64 0]) (t := 121) ?hr ?_; (case hd => rfl); (case hg => rfl); (case hr => exact Z16); intro gb212 hg w9 hbox hb; have n0_ := A_ (below_step Z1 hb); have n1_ := A_ (hbox); have n2_ := A_ ((by rw [hg]; exact (below_size Z1) : w.heap.size ≤ gb212)); have n3_ := A_ ((by rw [hg]; exact (below_size Z1) : w.heap.size ≤ gb212)); clear HB; have HB := n0_; have BK212 := n1_; have GW212 := n2_; have GE212 := n3_; clear n0_ n1_ n2_ n3_; clear hb hbox hg; have hcz10_0 : w9.cell? ⟨gb212, 0, none⟩ = some (.int .i64 0) := (blk_cell BK212.out 0).trans rfl; have hcz10_1 : w9.cell? ⟨gb212, 1, none⟩ = some (.int .i64 0) := (blk_cell BK212.out 1).trans rfl; have hfz10_0 := blk_frozen BK212.out 0; have hfz10_1 := blk_frozen BK212.out 1) | ((with_reducible refine gate_callee (f := 71) rfl ?_); refine goesL_ (some 13) rfl rfl Try.func71 (by kernel_rfl) rfl #[.int .i64 ((rd_T121 l0 x7_1).f0), .int .i64 0, .int .i64 3] rfl Z5 ?_; (with_reducible refine (impl_within.calls ((rd_T121 l0 x7_1).f0) 0 3 true _ A5.out).mono ?_); rintro e w' ⟨rfl, ⟨nd, rfl⟩⟩; refine ⟨_, rfl, ?_⟩) | (go_at_call 71; (with_reducible refine (impl_within.calls ((rd_T121 l0 x7_1).f1) 0 103 true _ A7.out).mono ?_); rintro e w' ⟨rfl, ⟨nd, rfl⟩⟩))
        go_roundg k1
        case measure => have := HK1.out; omega
        case rel => exact ⟨(wrap64 (x7_1 + 1)), Z17, H', ⟨by have := HK1.out; omega⟩, ⟨Z2 GE212.out⟩⟩
       ·replace c8 := Bool.eq_false_iff.mpr c8
        subst c8
        have H1 : (some false) = some r := by rw [if_neg (show ¬ (false = true) by decide)] at H; exact H
        clear H
        have H := H1
        clear H1
        obtain rfl := Option.some.inj H
        have p211 : 0 ≤ (x7_1 : Int) := of_decide_eq_true Z12
        have q211 : x7_1 < (l0.length : Int) := of_decide_eq_true Z12
        obtain ⟨ad211, e211, hx211_0, hx211_1⟩ := at_T121 HR0.out x7_1 p211 q211
        cases e211
        replace hx211_0 := ZC HB.out hx211_0
        replace hx211_1 := ZC HB.out hx211_1
        replace p211 := eq_true p211
        replace q211 := eq_true q211
        go_wp2_with (first | ((with_reducible refine gate_dst (N := 4) rfl ?_); refine box_event ?hg (N := 4) ?hd (cs := #[.int .i64 0, .int .i64 0]) (t := 121) ?hr ?_; (case hd => rfl); (case hg => rfl); (case hr => exact Z16); intro gb212 hg w11 hbox hb; have n0_ := A_ (below_step Z1 hb); have n1_ := A_ (hbox); have n2_ := A_ ((by rw [hg]; exact (below_size Z1) : w.heap.size ≤ gb212)); have n3_ := A_ ((by rw [hg]; exact (below_size Z1) : w.heap.size ≤ gb212)); clear HB; have HB := n0_; have BK212 := n1_; have GW212 := n2_; have GE212 := n3_; clear n0_ n1_ n2_ n3_; clear hb hbox hg; have hcz12_0 : w11.cell? ⟨gb212, 0, none⟩ = some (.int .i64 0) := (blk_cell BK212.out 0).trans rfl; have hcz12_1 : w11.cell? ⟨gb212, 1, none⟩ = some (.int .i64 0) := (blk_cell BK212.out 1).trans rfl; have hfz12_0 := blk_frozen BK212.out 0; have hfz12_1 := blk_frozen BK212.out 1) | ((with_reducible refine gate_callee (f := 71) rfl ?_); refine goesL_ (some 13) rfl rfl Try.func71 (by kernel_rfl) rfl #[.int .i64 ((rd_T121 l0 x7_1).f0), .int .i64 0, .int .i64 3] rfl Z5 ?_; (with_reducible refine (impl_within.calls ((rd_T121 l0 x7_1).f0) 0 3 true _ A5.out).mono ?_); rintro e w' ⟨rfl, ⟨nd, rfl⟩⟩; refine ⟨_, rfl, ?_⟩) | (go_at_call 71; (with_reducible refine (impl_within.calls ((rd_T121 l0 x7_1).f1) 0 103 false _ A7.out).mono ?_); rintro e w' ⟨rfl, ⟨nd, rfl⟩⟩))
        go_ret
        exact ⟨Z11, Z2 GE212.out⟩
      ·replace c6 := Bool.eq_false_iff.mpr c6
       subst c6
       have H1 : (some false) = some r := by rw [if_neg (show ¬ (false = true) by decide)] at H; exact H
       clear H
       have H := H1
       clear H1
       obtain rfl := Option.some.inj H
       have p211 : 0 ≤ (x7_1 : Int) := of_decide_eq_true Z12
       have q211 : x7_1 < (l0.length : Int) := of_decide_eq_true Z12
       obtain ⟨ad211, e211, hx211_0, hx211_1⟩ := at_T121 HR0.out x7_1 p211 q211
       cases e211
       replace hx211_0 := ZC HB.out hx211_0
       replace hx211_1 := ZC HB.out hx211_1
       replace p211 := eq_true p211
       replace q211 := eq_true q211
       go_wp2_with (first | ((with_reducible refine gate_dst (N := 4) rfl ?_); refine box_event ?hg (N := 4) ?hd (cs := #[.int .i64 0, .int .i64 0]) (t := 121) ?hr ?_; (case hd => rfl); (case hg => rfl); (case hr => exact Z16); intro gb212 hg w13 hbox hb; have n0_ := A_ (below_step Z1 hb); have n1_ := A_ (hbox); have n2_ := A_ ((by rw [hg]; exact (below_size Z1) : w.heap.size ≤ gb212)); have n3_ := A_ ((by rw [hg]; exact (below_size Z1) : w.heap.size ≤ gb212)); clear HB; have HB := n0_; have BK212 := n1_; have GW212 := n2_; have GE212 := n3_; clear n0_ n1_ n2_ n3_; clear hb hbox hg; have hcz14_0 : w13.cell? ⟨gb212, 0, none⟩ = some (.int .i64 0) := (blk_cell BK212.out 0).trans rfl; have hcz14_1 : w13.cell? ⟨gb212, 1, none⟩ = some (.int .i64 0) := (blk_cell BK212.out 1).trans rfl; have hfz14_0 := blk_frozen BK212.out 0; have hfz14_1 := blk_frozen BK212.out 1) | ((with_reducible refine gate_callee (f := 71) rfl ?_); refine goesL_ (some 13) rfl rfl Try.func71 (by kernel_rfl) rfl #[.int .i64 ((rd_T121 l0 x7_1).f0), .int .i64 0, .int .i64 3] rfl Z5 ?_; (with_reducible refine (impl_within.calls ((rd_T121 l0 x7_1).f0) 0 3 false _ A5.out).mono ?_); rintro e w' ⟨rfl, ⟨nd, rfl⟩⟩; refine ⟨_, rfl, ?_⟩))
       go_ret
       exact ⟨Z11, Z2 GE212.out⟩
     ·rw [if_neg c4] at H
      exact absurd H (by simp)
    ·rw [if_neg c3] at H
     exact absurd H (by simp)
   ·rw [if_neg c2] at H
    have c2b0 : decide (x7_1 < (l0.length : Int)) = false := decide_eq_false c2
    clear c2
    obtain rfl := Option.some.inj H
    go_wp2
    go_ret
    exact ⟨Z11, Z1⟩
def impl_word.l0 : Nat → ByteArray → Int → Option (Bool)
 | 0, _, _ => none
 | k + 1, x0, x3 => if x3 < (x0.size : Int) then (if 0 ≤ x3 then (if (bt x0 x3) ≥ 97 then (if (bt x0 x3) ≤ 122 then (impl_word.l0 k x0 (wrap64 (x3 + 1))) else (if (bt x0 x3) ≥ 48 then (if (bt x0 x3) ≤ 57 then (impl_word.l0 k x0 (wrap64 (x3 + 1))) else (if ((bt x0 x3) = 32) then (impl_word.l0 k x0 (wrap64 (x3 + 1))) else (some false))) else (if ((bt x0 x3) = 32) then (impl_word.l0 k x0 (wrap64 (x3 + 1))) else (some false)))) else (if (bt x0 x3) ≥ 48 then (if (bt x0 x3) ≤ 57 then (impl_word.l0 k x0 (wrap64 (x3 + 1))) else (if ((bt x0 x3) = 32) then (impl_word.l0 k x0 (wrap64 (x3 + 1))) else (some false))) else (if ((bt x0 x3) = 32) then (impl_word.l0 k x0 (wrap64 (x3 + 1))) else (some false)))) else (none)) else (some (decide ((x0.size : Int) ≤ 12)))
def impl_word.f (k : Nat) (a0 : ByteArray) : Option (Bool) := impl_word.l0 k a0 0
theorem impl_word.mono_l : ∀ k, (∀ y0 y1, LeO (impl_word.l0 k y0 y1) (impl_word.l0 (k + 1) y0 y1))
 | 0 => fun _ _ r h => by simp [impl_word.l0] at h
 | k + 1 => by
  have ih0 := impl_word.mono_l k
  ·intro y0 y1
   unfold impl_word.l0
   repeat' first
   | (with_reducible exact ih0 _ _)
   | (with_reducible exact LeO.refl _)
   | (with_reducible exact LeO.none _)
   | (with_reducible refine LeO.ite ?_ ?_)
   | (with_reducible refine LeO.bind ?_ (fun _ => ?_))
   | exact ih0 _ _
   | exact LeO.none _
   | refine LeO.ite ?_ ?_
   | refine LeO.bind ?_ (fun _ => ?_)
theorem impl_word.mono : ∀ a0 k, LeO (impl_word.f k a0) (impl_word.f (k + 1) a0) := by
 intro a0 k
 have ih0 := impl_word.mono_l k
 unfold impl_word.f
 repeat' first
   | (with_reducible exact ih0 _ _)
   | (with_reducible exact LeO.refl _)
   | (with_reducible exact LeO.none _)
   | (with_reducible refine LeO.ite ?_ ?_)
   | (with_reducible refine LeO.bind ?_ (fun _ => ?_))
   | exact ih0 _ _
   | exact LeO.none _
   | refine LeO.ite ?_ ?_
   | refine LeO.bind ?_ (fun _ => ?_)
set_option maxHeartbeats 8000000 in
set_option maxRecDepth 100000 in
theorem impl_word.calls (k : Nat) (a0 : ByteArray) (r : Bool) (w : World) (h : impl_word.f k a0 = some r) :
  Calls Try.prog 98 #[.string a0] w fun e w' => e = .returned (.bool r) ∧ Drawn0 w w' := by
 have H : (impl_word.l0 k a0 0) = some r := h
 clear h
 have H' := A_ H
 clear H
 go_enter Try.func98, Try.ntmps98
 go_wp2
 go_loopg [3] k (fun kq v3 w' => ∃ (x3_1 : Int), v3 = .int .i64 x3_1 ∧ Aside0 (impl_word.l0 kq a0 x3_1 = some r) ∧ Aside0 (kq ≤ k) ∧ Drawn0 w w')
 case atStart => exact ⟨(0), Z17, H', ⟨Nat.le_refl _⟩, Z23⟩
 case round =>
  clear H'
  obtain ⟨x3_1, rfl, HA, HK1, ⟨m1, rfl⟩⟩ := hrel
  cases gk with
  | zero => exact absurd HA.out (by simp [impl_word.l0])
  | succ k1 =>
   have H := HA.out
   clear HA
   simp only [impl_word.l0] at H
   by_cases c2 : x3_1 < (a0.size : Int)
   ·rw [if_pos c2] at H
    have c2b0 : decide (x3_1 < (a0.size : Int)) = true := decide_eq_true c2
    clear c2
    by_cases c3 : 0 ≤ x3_1
    ·rw [if_pos c3] at H
     have c3b0 : decide (0 ≤ x3_1) = true := decide_eq_true c3
     clear c3
     by_cases c5 : (bt a0 x3_1) ≥ 97
     ·rw [if_pos c5] at H
      have c5b0 : decide (97 ≤ (bt a0 x3_1)) = true := decide_eq_true c5
      clear c5
      by_cases c6 : (bt a0 x3_1) ≤ 122
      ·rw [if_pos c6] at H
       have c6b0 : decide ((bt a0 x3_1) ≤ 122) = true := decide_eq_true c6
       clear c6
       have H' := A_ H
       clear H
       have p4 : 0 ≤ (x3_1 : Int) := of_decide_eq_true Z12
       have q4 : x3_1 < (a0.size : Int) := of_decide_eq_true Z12
       have hx4 := bt_at a0 x3_1
       replace p4 := eq_true p4
       replace q4 := eq_true q4
       go_wp2
       go_roundg k1
       case measure => have := HK1.out; omega
       case rel => exact ⟨(wrap64 (x3_1 + 1)), Z17, H', ⟨by have := HK1.out; omega⟩, Z23⟩
      ·rw [if_neg c6] at H
       have c6b0 : decide ((bt a0 x3_1) ≤ 122) = false := decide_eq_false c6
       clear c6
       by_cases c7 : (bt a0 x3_1) ≥ 48
       ·rw [if_pos c7] at H
        have c7b0 : decide (48 ≤ (bt a0 x3_1)) = true := decide_eq_true c7
        clear c7
        by_cases c8 : (bt a0 x3_1) ≤ 57
        ·rw [if_pos c8] at H
         have c8b0 : decide ((bt a0 x3_1) ≤ 57) = true := decide_eq_true c8
         clear c8
         have H' := A_ H
         clear H
         have p4 : 0 ≤ (x3_1 : Int) := of_decide_eq_true Z12
         have q4 : x3_1 < (a0.size : Int) := of_decide_eq_true Z12
         have hx4 := bt_at a0 x3_1
         replace p4 := eq_true p4
         replace q4 := eq_true q4
         go_wp2
         go_roundg k1
         case measure => have := HK1.out; omega
         case rel => exact ⟨(wrap64 (x3_1 + 1)), Z17, H', ⟨by have := HK1.out; omega⟩, Z23⟩
        ·rw [if_neg c8] at H
         have c8b0 : decide ((bt a0 x3_1) ≤ 57) = false := decide_eq_false c8
         clear c8
         by_cases c9 : ((bt a0 x3_1) = 32)
         ·rw [if_pos c9] at H
          have c9b0 : ((bt a0 x3_1) == 32) = true := beq_iff_eq.mpr c9
          have c9b1 : ((bt a0 x3_1) != 32) = false := bne_eq_false_iff_eq.mpr c9
          clear c9
          have H' := A_ H
          clear H
          have p4 : 0 ≤ (x3_1 : Int) := of_decide_eq_true Z12
          have q4 : x3_1 < (a0.size : Int) := of_decide_eq_true Z12
          have hx4 := bt_at a0 x3_1
          replace p4 := eq_true p4
          replace q4 := eq_true q4
          go_wp2
          go_roundg k1
          case measure => have := HK1.out; omega
          case rel => exact ⟨(wrap64 (x3_1 + 1)), Z17, H', ⟨by have := HK1.out; omega⟩, Z23⟩
         ·rw [if_neg c9] at H
          have c9b0 : ((bt a0 x3_1) == 32) = false := beq_eq_false_iff_ne.mpr c9
          have c9b1 : ((bt a0 x3_1) != 32) = true := bne_iff_ne.mpr c9
          obtain rfl := Option.some.inj H
          have p4 : 0 ≤ (x3_1 : Int) := of_decide_eq_true Z12
          have q4 : x3_1 < (a0.size : Int) := of_decide_eq_true Z12
          have hx4 := bt_at a0 x3_1
          replace p4 := eq_true p4
          replace q4 := eq_true q4
          go_wp2
          go_ret
          exact ⟨Z17, Z23⟩
       ·rw [if_neg c7] at H
        have c7b0 : decide (48 ≤ (bt a0 x3_1)) = false := decide_eq_false c7
        clear c7
        by_cases c10 : ((bt a0 x3_1) = 32)
        ·rw [if_pos c10] at H
         have c10b0 : ((bt a0 x3_1) == 32) = true := beq_iff_eq.mpr c10
         have c10b1 : ((bt a0 x3_1) != 32) = false := bne_eq_false_iff_eq.mpr c10
         clear c10
         have H' := A_ H
         clear H
         have p4 : 0 ≤ (x3_1 : Int) := of_decide_eq_true Z12
         have q4 : x3_1 < (a0.size : Int) := of_decide_eq_true Z12
         have hx4 := bt_at a0 x3_1
         replace p4 := eq_true p4
         replace q4 := eq_true q4
         go_wp2
         go_roundg k1
         case measure => have := HK1.out; omega
         case rel => exact ⟨(wrap64 (x3_1 + 1)), Z17, H', ⟨by have := HK1.out; omega⟩, Z23⟩
        ·rw [if_neg c10] at H
         have c10b0 : ((bt a0 x3_1) == 32) = false := beq_eq_false_iff_ne.mpr c10
         have c10b1 : ((bt a0 x3_1) != 32) = true := bne_iff_ne.mpr c10
         obtain rfl := Option.some.inj H
         have p4 : 0 ≤ (x3_1 : Int) := of_decide_eq_true Z12
         have q4 : x3_1 < (a0.size : Int) := of_decide_eq_true Z12
         have hx4 := bt_at a0 x3_1
         replace p4 := eq_true p4
         replace q4 := eq_true q4
         go_wp2
         go_ret
         exact ⟨Z17, Z23⟩
     ·rw [if_neg c5] at H
      have c5b0 : decide (97 ≤ (bt a0 x3_1)) = false := decide_eq_false c5
      clear c5
      by_cases c11 : (bt a0 x3_1) ≥ 48
      ·rw [if_pos c11] at H
       have c11b0 : decide (48 ≤ (bt a0 x3_1)) = true := decide_eq_true c11
       clear c11
       by_cases c12 : (bt a0 x3_1) ≤ 57
       ·rw [if_pos c12] at H
        have c12b0 : decide ((bt a0 x3_1) ≤ 57) = true := decide_eq_true c12
        clear c12
        have H' := A_ H
        clear H
        have p4 : 0 ≤ (x3_1 : Int) := of_decide_eq_true Z12
        have q4 : x3_1 < (a0.size : Int) := of_decide_eq_true Z12
        have hx4 := bt_at a0 x3_1
        replace p4 := eq_true p4
        replace q4 := eq_true q4
        go_wp2
        go_roundg k1
        case measure => have := HK1.out; omega
        case rel => exact ⟨(wrap64 (x3_1 + 1)), Z17, H', ⟨by have := HK1.out; omega⟩, Z23⟩
       ·rw [if_neg c12] at H
        have c12b0 : decide ((bt a0 x3_1) ≤ 57) = false := decide_eq_false c12
        clear c12
        by_cases c13 : ((bt a0 x3_1) = 32)
        ·rw [if_pos c13] at H
         have c13b0 : ((bt a0 x3_1) == 32) = true := beq_iff_eq.mpr c13
         have c13b1 : ((bt a0 x3_1) != 32) = false := bne_eq_false_iff_eq.mpr c13
         clear c13
         have H' := A_ H
         clear H
         have p4 : 0 ≤ (x3_1 : Int) := of_decide_eq_true Z12
         have q4 : x3_1 < (a0.size : Int) := of_decide_eq_true Z12
         have hx4 := bt_at a0 x3_1
         replace p4 := eq_true p4
         replace q4 := eq_true q4
         go_wp2
         go_roundg k1
         case measure => have := HK1.out; omega
         case rel => exact ⟨(wrap64 (x3_1 + 1)), Z17, H', ⟨by have := HK1.out; omega⟩, Z23⟩
        ·rw [if_neg c13] at H
         have c13b0 : ((bt a0 x3_1) == 32) = false := beq_eq_false_iff_ne.mpr c13
         have c13b1 : ((bt a0 x3_1) != 32) = true := bne_iff_ne.mpr c13
         obtain rfl := Option.some.inj H
         have p4 : 0 ≤ (x3_1 : Int) := of_decide_eq_true Z12
         have q4 : x3_1 < (a0.size : Int) := of_decide_eq_true Z12
         have hx4 := bt_at a0 x3_1
         replace p4 := eq_true p4
         replace q4 := eq_true q4
         go_wp2
         go_ret
         exact ⟨Z17, Z23⟩
      ·rw [if_neg c11] at H
       have c11b0 : decide (48 ≤ (bt a0 x3_1)) = false := decide_eq_false c11
       clear c11
       by_cases c14 : ((bt a0 x3_1) = 32)
       ·rw [if_pos c14] at H
        have c14b0 : ((bt a0 x3_1) == 32) = true := beq_iff_eq.mpr c14
        have c14b1 : ((bt a0 x3_1) != 32) = false := bne_eq_false_iff_eq.mpr c14
        clear c14
        have H' := A_ H
        clear H
        have p4 : 0 ≤ (x3_1 : Int) := of_decide_eq_true Z12
        have q4 : x3_1 < (a0.size : Int) := of_decide_eq_true Z12
        have hx4 := bt_at a0 x3_1
        replace p4 := eq_true p4
        replace q4 := eq_true q4
        go_wp2
        go_roundg k1
        case measure => have := HK1.out; omega
        case rel => exact ⟨(wrap64 (x3_1 + 1)), Z17, H', ⟨by have := HK1.out; omega⟩, Z23⟩
       ·rw [if_neg c14] at H
        have c14b0 : ((bt a0 x3_1) == 32) = false := beq_eq_false_iff_ne.mpr c14
        have c14b1 : ((bt a0 x3_1) != 32) = true := bne_iff_ne.mpr c14
        obtain rfl := Option.some.inj H
        have p4 : 0 ≤ (x3_1 : Int) := of_decide_eq_true Z12
        have q4 : x3_1 < (a0.size : Int) := of_decide_eq_true Z12
        have hx4 := bt_at a0 x3_1
        replace p4 := eq_true p4
        replace q4 := eq_true q4
        go_wp2
        go_ret
        exact ⟨Z17, Z23⟩
    ·rw [if_neg c3] at H
     exact absurd H (by simp)
   ·rw [if_neg c2] at H
    have c2b0 : decide (x3_1 < (a0.size : Int)) = false := decide_eq_false c2
    clear c2
    obtain rfl := Option.some.inj H
    go_wp2
    go_ret
    exact ⟨Z17, Z23⟩
def impl_ValOk.f (k : Nat) (a0_0 : Int) (a0_1 : Int) (a0_2 : ByteArray) : Option (Bool) := if a0_0 = 0 then (if a0_1 = 0 then (some (a0_2.toList == ([] : List UInt8))) else (some false)) else (if a0_0 = 1 then ((impl_within.f a0_1 (-1000) 1000).bind fun t216 => (if t216 = true then (some (a0_2.toList == ([] : List UInt8))) else (some false))) else (if a0_0 = 2 then (if a0_1 = 0 then ((impl_word.f k a0_2).bind fun t217 => (some t217)) else (some false)) else (some false)))
theorem impl_ValOk.mono : ∀ a0 a1 a2 k, LeO (impl_ValOk.f k a0 a1 a2) (impl_ValOk.f (k + 1) a0 a1 a2) := by
 intro a0 a1 a2 k
 unfold impl_ValOk.f
 repeat' first
   | (with_reducible exact impl_word.mono _ _)
   | (with_reducible exact LeO.refl _)
   | (with_reducible exact LeO.none _)
   | (with_reducible refine LeO.ite ?_ ?_)
   | (with_reducible refine LeO.bind ?_ (fun _ => ?_))
   | exact impl_word.mono _ _
   | exact LeO.none _
   | refine LeO.ite ?_ ?_
   | refine LeO.bind ?_ (fun _ => ?_)
set_option maxHeartbeats 8000000 in
set_option maxRecDepth 100000 in
theorem impl_ValOk.calls (k : Nat) (a0_0 : Int) (a0_1 : Int) (a0_2 : ByteArray) (r : Bool) (w : World) (h : impl_ValOk.f k a0_0 a0_1 a0_2 = some r) :
  Calls Try.prog 90 #[.agg #[.int .i64 a0_0, .int .i64 a0_1, .string a0_2]] w fun e w' => e = .returned (.bool r) ∧ Below w.heap.size w w' := by
 have hu124 := Try.underlying124
 have HB := A_ (Below.refl w.heap.size w)
 have H : (if a0_0 = 0 then (if a0_1 = 0 then (some (a0_2.toList == ([] : List UInt8))) else (some false)) else (if a0_0 = 1 then ((impl_within.f a0_1 (-1000) 1000).bind fun t216 => (if t216 = true then (some (a0_2.toList == ([] : List UInt8))) else (some false))) else (if a0_0 = 2 then (if a0_1 = 0 then ((impl_word.f k a0_2).bind fun t217 => (some t217)) else (some false)) else (some false)))) = some r := h
 clear h
 by_cases c2 : a0_0 = 0
 ·rw [if_pos c2] at H
  have c2b0 : (a0_0 == 0) = true := beq_iff_eq.mpr c2
  have c2b1 : (a0_0 != 0) = false := bne_eq_false_iff_eq.mpr c2
  clear c2
  by_cases c3 : a0_1 = 0
  ·rw [if_pos c3] at H
   have c3b0 : (a0_1 == 0) = true := beq_iff_eq.mpr c3
   have c3b1 : (a0_1 != 0) = false := bne_eq_false_iff_eq.mpr c3
   clear c3
   obtain rfl := Option.some.inj H
   go_enter Try.func90, Try.ntmps90
   go_wp2_with (first | ((with_reducible refine gate_dst (N := 1) rfl ?_); refine box_event ?hg (N := 1) ?hd (cs := #[.int .i64 a0_0, .int .i64 a0_1, .string a0_2]) (t := 124) ?hr ?_; (case hd => rfl); (case hg => rfl); (case hr => exact Z16); intro gb215 hg w4 hbox hb; have n0_ := A_ (below_step Z1 hb); have n1_ := A_ (hbox); have n2_ := A_ ((by rw [hg]; exact (below_size Z1) : w.heap.size ≤ gb215)); have n3_ := A_ ((by rw [hg]; exact (below_size Z1) : w.heap.size ≤ gb215)); clear HB; have HB := n0_; have BK215 := n1_; have GW215 := n2_; have GE215 := n3_; clear n0_ n1_ n2_ n3_; clear hb hbox hg; have hcz5_0 : w4.cell? ⟨gb215, 0, none⟩ = some (.int .i64 a0_0) := (blk_cell BK215.out 0).trans rfl; have hcz5_1 : w4.cell? ⟨gb215, 1, none⟩ = some (.int .i64 a0_1) := (blk_cell BK215.out 1).trans rfl; have hcz5_2 : w4.cell? ⟨gb215, 2, none⟩ = some (.string a0_2) := (blk_cell BK215.out 2).trans rfl; have hfz5_0 := blk_frozen BK215.out 0; have hfz5_1 := blk_frozen BK215.out 1; have hfz5_2 := blk_frozen BK215.out 2))
   go_ret
   exact ⟨Z11, Z2 GE215.out⟩
  ·rw [if_neg c3] at H
   have c3b0 : (a0_1 == 0) = false := beq_eq_false_iff_ne.mpr c3
   have c3b1 : (a0_1 != 0) = true := bne_iff_ne.mpr c3
   obtain rfl := Option.some.inj H
   go_enter Try.func90, Try.ntmps90
   go_wp2_with (first | ((with_reducible refine gate_dst (N := 1) rfl ?_); refine box_event ?hg (N := 1) ?hd (cs := #[.int .i64 a0_0, .int .i64 a0_1, .string a0_2]) (t := 124) ?hr ?_; (case hd => rfl); (case hg => rfl); (case hr => exact Z16); intro gb215 hg w6 hbox hb; have n0_ := A_ (below_step Z1 hb); have n1_ := A_ (hbox); have n2_ := A_ ((by rw [hg]; exact (below_size Z1) : w.heap.size ≤ gb215)); have n3_ := A_ ((by rw [hg]; exact (below_size Z1) : w.heap.size ≤ gb215)); clear HB; have HB := n0_; have BK215 := n1_; have GW215 := n2_; have GE215 := n3_; clear n0_ n1_ n2_ n3_; clear hb hbox hg; have hcz7_0 : w6.cell? ⟨gb215, 0, none⟩ = some (.int .i64 a0_0) := (blk_cell BK215.out 0).trans rfl; have hcz7_1 : w6.cell? ⟨gb215, 1, none⟩ = some (.int .i64 a0_1) := (blk_cell BK215.out 1).trans rfl; have hcz7_2 : w6.cell? ⟨gb215, 2, none⟩ = some (.string a0_2) := (blk_cell BK215.out 2).trans rfl; have hfz7_0 := blk_frozen BK215.out 0; have hfz7_1 := blk_frozen BK215.out 1; have hfz7_2 := blk_frozen BK215.out 2))
   go_ret
   exact ⟨Z11, Z2 GE215.out⟩
 ·rw [if_neg c2] at H
  have c2b0 : (a0_0 == 0) = false := beq_eq_false_iff_ne.mpr c2
  have c2b1 : (a0_0 != 0) = true := bne_iff_ne.mpr c2
  by_cases c8 : a0_0 = 1
  ·rw [if_pos c8] at H
   have c8b0 : (a0_0 == 1) = true := beq_iff_eq.mpr c8
   have c8b1 : (a0_0 != 1) = false := bne_eq_false_iff_eq.mpr c8
   clear c8
   replace H := Option.bind_eq_some_iff.mp H
   obtain ⟨t216, A90, H⟩ := H
   replace H : (if t216 = true then (some (a0_2.toList == ([] : List UInt8))) else (some false)) = some r := H
   have A9 := A_ A90
   clear A90
   by_cases c10 : t216 = true
   ·subst c10
    have H1 : (some (a0_2.toList == ([] : List UInt8))) = some r := by rw [if_pos rfl] at H; exact H
    clear H
    have H := H1
    clear H1
    obtain rfl := Option.some.inj H
    go_enter Try.func90, Try.ntmps90
    go_wp2_with (first | ((with_reducible refine gate_dst (N := 1) rfl ?_); refine box_event ?hg (N := 1) ?hd (cs := #[.int .i64 a0_0, .int .i64 a0_1, .string a0_2]) (t := 124) ?hr ?_; (case hd => rfl); (case hg => rfl); (case hr => exact Z16); intro gb215 hg w11 hbox hb; have n0_ := A_ (below_step Z1 hb); have n1_ := A_ (hbox); have n2_ := A_ ((by rw [hg]; exact (below_size Z1) : w.heap.size ≤ gb215)); have n3_ := A_ ((by rw [hg]; exact (below_size Z1) : w.heap.size ≤ gb215)); clear HB; have HB := n0_; have BK215 := n1_; have GW215 := n2_; have GE215 := n3_; clear n0_ n1_ n2_ n3_; clear hb hbox hg; have hcz12_0 : w11.cell? ⟨gb215, 0, none⟩ = some (.int .i64 a0_0) := (blk_cell BK215.out 0).trans rfl; have hcz12_1 : w11.cell? ⟨gb215, 1, none⟩ = some (.int .i64 a0_1) := (blk_cell BK215.out 1).trans rfl; have hcz12_2 : w11.cell? ⟨gb215, 2, none⟩ = some (.string a0_2) := (blk_cell BK215.out 2).trans rfl; have hfz12_0 := blk_frozen BK215.out 0; have hfz12_1 := blk_frozen BK215.out 1; have hfz12_2 := blk_frozen BK215.out 2) | ((with_reducible refine gate_callee (f := 71) rfl ?_); refine goesL_ (some 19) rfl rfl Try.func71 (by kernel_rfl) rfl #[.int .i64 a0_1, .int .i64 (-1000), .int .i64 1000] rfl Z5 ?_; (with_reducible refine (impl_within.calls a0_1 (-1000) 1000 true _ A9.out).mono ?_); rintro e w' ⟨rfl, ⟨nd, rfl⟩⟩; refine ⟨_, rfl, ?_⟩))
    go_ret
    exact ⟨Z11, Z2 GE215.out⟩
   ·replace c10 := Bool.eq_false_iff.mpr c10
    subst c10
    have H1 : (some false) = some r := by rw [if_neg (show ¬ (false = true) by decide)] at H; exact H
    clear H
    have H := H1
    clear H1
    obtain rfl := Option.some.inj H
    go_enter Try.func90, Try.ntmps90
    go_wp2_with (first | ((with_reducible refine gate_dst (N := 1) rfl ?_); refine box_event ?hg (N := 1) ?hd (cs := #[.int .i64 a0_0, .int .i64 a0_1, .string a0_2]) (t := 124) ?hr ?_; (case hd => rfl); (case hg => rfl); (case hr => exact Z16); intro gb215 hg w13 hbox hb; have n0_ := A_ (below_step Z1 hb); have n1_ := A_ (hbox); have n2_ := A_ ((by rw [hg]; exact (below_size Z1) : w.heap.size ≤ gb215)); have n3_ := A_ ((by rw [hg]; exact (below_size Z1) : w.heap.size ≤ gb215)); clear HB; have HB := n0_; have BK215 := n1_; have GW215 := n2_; have GE215 := n3_; clear n0_ n1_ n2_ n3_; clear hb hbox hg; have hcz14_0 : w13.cell? ⟨gb215, 0, none⟩ = some (.int .i64 a0_0) := (blk_cell BK215.out 0).trans rfl; have hcz14_1 : w13.cell? ⟨gb215, 1, none⟩ = some (.int .i64 a0_1) := (blk_cell BK215.out 1).trans rfl; have hcz14_2 : w13.cell? ⟨gb215, 2, none⟩ = some (.string a0_2) := (blk_cell BK215.out 2).trans rfl; have hfz14_0 := blk_frozen BK215.out 0; have hfz14_1 := blk_frozen BK215.out 1; have hfz14_2 := blk_frozen BK215.out 2) | ((with_reducible refine gate_callee (f := 71) rfl ?_); refine goesL_ (some 19) rfl rfl Try.func71 (by kernel_rfl) rfl #[.int .i64 a0_1, .int .i64 (-1000), .int .i64 1000] rfl Z5 ?_; (with_reducible refine (impl_within.calls a0_1 (-1000) 1000 false _ A9.out).mono ?_); rintro e w' ⟨rfl, ⟨nd, rfl⟩⟩; refine ⟨_, rfl, ?_⟩))
    go_ret
    exact ⟨Z11, Z2 GE215.out⟩
  ·rw [if_neg c8] at H
   have c8b0 : (a0_0 == 1) = false := beq_eq_false_iff_ne.mpr c8
   have c8b1 : (a0_0 != 1) = true := bne_iff_ne.mpr c8
   by_cases c15 : a0_0 = 2
   ·rw [if_pos c15] at H
    have c15b0 : (a0_0 == 2) = true := beq_iff_eq.mpr c15
    have c15b1 : (a0_0 != 2) = false := bne_eq_false_iff_eq.mpr c15
    clear c15
    by_cases c16 : a0_1 = 0
    ·rw [if_pos c16] at H
     have c16b0 : (a0_1 == 0) = true := beq_iff_eq.mpr c16
     have c16b1 : (a0_1 != 0) = false := bne_eq_false_iff_eq.mpr c16
     clear c16
     replace H := Option.bind_eq_some_iff.mp H
     obtain ⟨t217, A170, H⟩ := H
     replace H : (some t217) = some r := H
     have A17 := A_ A170
     clear A170
     obtain rfl := Option.some.inj H
     go_enter Try.func90, Try.ntmps90
     go_wp2_with (first | ((with_reducible refine gate_dst (N := 1) rfl ?_); refine box_event ?hg (N := 1) ?hd (cs := #[.int .i64 a0_0, .int .i64 a0_1, .string a0_2]) (t := 124) ?hr ?_; (case hd => rfl); (case hg => rfl); (case hr => exact Z16); intro gb215 hg w18 hbox hb; have n0_ := A_ (below_step Z1 hb); have n1_ := A_ (hbox); have n2_ := A_ ((by rw [hg]; exact (below_size Z1) : w.heap.size ≤ gb215)); have n3_ := A_ ((by rw [hg]; exact (below_size Z1) : w.heap.size ≤ gb215)); clear HB; have HB := n0_; have BK215 := n1_; have GW215 := n2_; have GE215 := n3_; clear n0_ n1_ n2_ n3_; clear hb hbox hg; have hcz19_0 : w18.cell? ⟨gb215, 0, none⟩ = some (.int .i64 a0_0) := (blk_cell BK215.out 0).trans rfl; have hcz19_1 : w18.cell? ⟨gb215, 1, none⟩ = some (.int .i64 a0_1) := (blk_cell BK215.out 1).trans rfl; have hcz19_2 : w18.cell? ⟨gb215, 2, none⟩ = some (.string a0_2) := (blk_cell BK215.out 2).trans rfl; have hfz19_0 := blk_frozen BK215.out 0; have hfz19_1 := blk_frozen BK215.out 1; have hfz19_2 := blk_frozen BK215.out 2) | (go_at_call 98; (with_reducible refine (impl_word.calls k a0_2 t217 _ A17.out).mono ?_); rintro e w' ⟨rfl, ⟨nd, rfl⟩⟩))
     go_ret
     exact ⟨Z11, Z2 GE215.out⟩
    ·rw [if_neg c16] at H
     have c16b0 : (a0_1 == 0) = false := beq_eq_false_iff_ne.mpr c16
     have c16b1 : (a0_1 != 0) = true := bne_iff_ne.mpr c16
     obtain rfl := Option.some.inj H
     go_enter Try.func90, Try.ntmps90
     go_wp2_with (first | ((with_reducible refine gate_dst (N := 1) rfl ?_); refine box_event ?hg (N := 1) ?hd (cs := #[.int .i64 a0_0, .int .i64 a0_1, .string a0_2]) (t := 124) ?hr ?_; (case hd => rfl); (case hg => rfl); (case hr => exact Z16); intro gb215 hg w20 hbox hb; have n0_ := A_ (below_step Z1 hb); have n1_ := A_ (hbox); have n2_ := A_ ((by rw [hg]; exact (below_size Z1) : w.heap.size ≤ gb215)); have n3_ := A_ ((by rw [hg]; exact (below_size Z1) : w.heap.size ≤ gb215)); clear HB; have HB := n0_; have BK215 := n1_; have GW215 := n2_; have GE215 := n3_; clear n0_ n1_ n2_ n3_; clear hb hbox hg; have hcz21_0 : w20.cell? ⟨gb215, 0, none⟩ = some (.int .i64 a0_0) := (blk_cell BK215.out 0).trans rfl; have hcz21_1 : w20.cell? ⟨gb215, 1, none⟩ = some (.int .i64 a0_1) := (blk_cell BK215.out 1).trans rfl; have hcz21_2 : w20.cell? ⟨gb215, 2, none⟩ = some (.string a0_2) := (blk_cell BK215.out 2).trans rfl; have hfz21_0 := blk_frozen BK215.out 0; have hfz21_1 := blk_frozen BK215.out 1; have hfz21_2 := blk_frozen BK215.out 2))
     go_ret
     exact ⟨Z11, Z2 GE215.out⟩
   ·rw [if_neg c15] at H
    have c15b0 : (a0_0 == 2) = false := beq_eq_false_iff_ne.mpr c15
    have c15b1 : (a0_0 != 2) = true := bne_iff_ne.mpr c15
    obtain rfl := Option.some.inj H
    go_enter Try.func90, Try.ntmps90
    go_wp2_with (first | ((with_reducible refine gate_dst (N := 1) rfl ?_); refine box_event ?hg (N := 1) ?hd (cs := #[.int .i64 a0_0, .int .i64 a0_1, .string a0_2]) (t := 124) ?hr ?_; (case hd => rfl); (case hg => rfl); (case hr => exact Z16); intro gb215 hg w22 hbox hb; have n0_ := A_ (below_step Z1 hb); have n1_ := A_ (hbox); have n2_ := A_ ((by rw [hg]; exact (below_size Z1) : w.heap.size ≤ gb215)); have n3_ := A_ ((by rw [hg]; exact (below_size Z1) : w.heap.size ≤ gb215)); clear HB; have HB := n0_; have BK215 := n1_; have GW215 := n2_; have GE215 := n3_; clear n0_ n1_ n2_ n3_; clear hb hbox hg; have hcz23_0 : w22.cell? ⟨gb215, 0, none⟩ = some (.int .i64 a0_0) := (blk_cell BK215.out 0).trans rfl; have hcz23_1 : w22.cell? ⟨gb215, 1, none⟩ = some (.int .i64 a0_1) := (blk_cell BK215.out 1).trans rfl; have hcz23_2 : w22.cell? ⟨gb215, 2, none⟩ = some (.string a0_2) := (blk_cell BK215.out 2).trans rfl; have hfz23_0 := blk_frozen BK215.out 0; have hfz23_1 := blk_frozen BK215.out 1; have hfz23_2 := blk_frozen BK215.out 2))
    go_ret
    exact ⟨Z11, Z2 GE215.out⟩
def impl_valsOk.l0 : Nat → List (S124) → Int → Int → Option (Bool)
 | 0, _, _, _ => none
 | k + 1, x5, x6, x7 => if x7 < x6 then (if 0 ≤ x7 then (if x7 < (x5.length : Int) then ((impl_ValOk.f k ((rd_T124 x5 x7).f0) ((rd_T124 x5 x7).f1) ((rd_T124 x5 x7).f2)).bind fun t220 => (if t220 = true then (impl_valsOk.l0 k x5 x6 (wrap64 (x7 + 1))) else (some false))) else (none)) else (none)) else (some true)
def impl_valsOk.f (k : Nat) (l0 : List (S124)) : Option (Bool) := impl_valsOk.l0 k l0 (l0.length : Int) 0
theorem impl_valsOk.mono_l : ∀ k, (∀ y0 y1 y2, LeO (impl_valsOk.l0 k y0 y1 y2) (impl_valsOk.l0 (k + 1) y0 y1 y2))
 | 0 => fun _ _ _ r h => by simp [impl_valsOk.l0] at h
 | k + 1 => by
  have ih0 := impl_valsOk.mono_l k
  ·intro y0 y1 y2
   unfold impl_valsOk.l0
   repeat' first
   | (with_reducible exact ih0 _ _ _)
   | (with_reducible exact impl_ValOk.mono _ _ _ _)
   | (with_reducible exact LeO.refl _)
   | (with_reducible exact LeO.none _)
   | (with_reducible refine LeO.ite ?_ ?_)
   | (with_reducible refine LeO.bind ?_ (fun _ => ?_))
   | exact ih0 _ _ _
   | exact impl_ValOk.mono _ _ _ _
   | exact LeO.none _
   | refine LeO.ite ?_ ?_
   | refine LeO.bind ?_ (fun _ => ?_)
theorem impl_valsOk.mono : ∀ a0 k, LeO (impl_valsOk.f k a0) (impl_valsOk.f (k + 1) a0) := by
 intro a0 k
 have ih0 := impl_valsOk.mono_l k
 unfold impl_valsOk.f
 repeat' first
   | (with_reducible exact ih0 _ _ _)
   | (with_reducible exact impl_ValOk.mono _ _ _ _)
   | (with_reducible exact LeO.refl _)
   | (with_reducible exact LeO.none _)
   | (with_reducible refine LeO.ite ?_ ?_)
   | (with_reducible refine LeO.bind ?_ (fun _ => ?_))
   | exact ih0 _ _ _
   | exact impl_ValOk.mono _ _ _ _
   | exact LeO.none _
   | refine LeO.ite ?_ ?_
   | refine LeO.bind ?_ (fun _ => ?_)
set_option maxHeartbeats 8000000 in
set_option maxRecDepth 100000 in
theorem impl_valsOk.calls (k : Nat) (A0 : Option Addr) (c0 : Nat) (l0 : List (S124)) (r : Bool) (w : World) (hr0 : Kd.C k124 w A0 l0.length l0) (hc0 : l0.length ≤ c0) (h : impl_valsOk.f k l0 = some r) :
  Calls Try.prog 68 #[.slice A0 l0.length c0] w fun e w' => e = .returned (.bool r) ∧ Below w.heap.size w w' := by
 have hu124 := Try.underlying124
 have HR0 := A_ hr0
 have HC0 := A_ hc0
 clear hr0 hc0
 have HB := A_ (Below.refl w.heap.size w)
 have H : (impl_valsOk.l0 k l0 (l0.length : Int) 0) = some r := h
 clear h
 have H' := A_ H
 clear H
 go_enter Try.func68, Try.ntmps68
 go_wp2
 go_loopg [7] k (fun kq v7 w' => ∃ (x7_1 : Int), v7 = .int .i64 x7_1 ∧ Aside0 (impl_valsOk.l0 kq l0 (l0.length : Int) x7_1 = some r) ∧ Aside0 (kq ≤ k) ∧ Aside0 (Below w.heap.size w w'))
 case atStart => exact ⟨(0), Z17, H', ⟨Nat.le_refl _⟩, ⟨Z1⟩⟩
 case round =>
  clear H'
  obtain ⟨x7_1, rfl, HA, HK1, HB⟩ := hrel
  cases gk with
  | zero => exact absurd HA.out (by simp [impl_valsOk.l0])
  | succ k1 =>
   have H := HA.out
   clear HA
   simp only [impl_valsOk.l0] at H
   by_cases c2 : x7_1 < (l0.length : Int)
   ·rw [if_pos c2] at H
    have c2b0 : decide (x7_1 < (l0.length : Int)) = true := decide_eq_true c2
    clear c2
    by_cases c3 : 0 ≤ x7_1
    ·rw [if_pos c3] at H
     have c3b0 : decide (0 ≤ x7_1) = true := decide_eq_true c3
     clear c3
     by_cases c4 : x7_1 < (l0.length : Int)
     ·rw [if_pos c4] at H
      have c4b0 : decide (x7_1 < (l0.length : Int)) = true := decide_eq_true c4
      clear c4
      replace H := Option.bind_eq_some_iff.mp H
      obtain ⟨t220, A50, H⟩ := H
      replace H : (if t220 = true then (impl_valsOk.l0 k1 l0 (l0.length : Int) (wrap64 (x7_1 + 1))) else (some false)) = some r := H
      have A5 := A_ A50
      clear A50
      by_cases c6 : t220 = true
      ·subst c6
       have H1 : (impl_valsOk.l0 k1 l0 (l0.length : Int) (wrap64 (x7_1 + 1))) = some r := by rw [if_pos rfl] at H; exact H
       clear H
       have H := H1
       clear H1
       have H' := A_ H
       clear H
       have p218 : 0 ≤ (x7_1 : Int) := of_decide_eq_true Z12
       have q218 : x7_1 < (l0.length : Int) := of_decide_eq_true Z12
       obtain ⟨ad218, e218, hx218_0, hx218_1, hx218_2⟩ := at_T124 HR0.out x7_1 p218 q218
       cases e218
       replace hx218_0 := ZC HB.out hx218_0
       replace hx218_1 := ZC HB.out hx218_1
       replace hx218_2 := ZC HB.out hx218_2
       replace p218 := eq_true p218
       replace q218 := eq_true q218
       go_wp2_with (first | ((with_reducible refine gate_dst (N := 4) rfl ?_); refine box_event ?hg (N := 4) ?hd (cs := #[.int .i64 0, .int .i64 0, .string (⟨#[]⟩ : ByteArray)]) (t := 124) ?hr ?_; (case hd => rfl); (case hg => rfl); (case hr => exact Z16); intro gb219 hg w7 hbox hb; have n0_ := A_ (below_step Z1 hb); have n1_ := A_ (hbox); have n2_ := A_ ((by rw [hg]; exact (below_size Z1) : w.heap.size ≤ gb219)); have n3_ := A_ ((by rw [hg]; exact (below_size Z1) : w.heap.size ≤ gb219)); clear HB; have HB := n0_; have BK219 := n1_; have GW219 := n2_; have GE219 := n3_; clear n0_ n1_ n2_ n3_; clear hb hbox hg; have hcz8_0 : w7.cell? ⟨gb219, 0, none⟩ = some (.int .i64 0) := (blk_cell BK219.out 0).trans rfl; have hcz8_1 : w7.cell? ⟨gb219, 1, none⟩ = some (.int .i64 0) := (blk_cell BK219.out 1).trans rfl; have hcz8_2 : w7.cell? ⟨gb219, 2, none⟩ = some (.string (⟨#[]⟩ : ByteArray)) := (blk_cell BK219.out 2).trans rfl; have hfz8_0 := blk_frozen BK219.out 0; have hfz8_1 := blk_frozen BK219.out 1; have hfz8_2 := blk_frozen BK219.out 2) | ((with_reducible refine gate_callee (f := 90) rfl ?_); refine goesL_ (some 12) rfl rfl Try.func90 (by kernel_rfl) rfl #[.agg #[.int .i64 ((rd_T124 l0 x7_1).f0), .int .i64 ((rd_T124 l0 x7_1).f1), .string ((rd_T124 l0 x7_1).f2)]] rfl Z5 ?_; (with_reducible refine (impl_ValOk.calls k1 ((rd_T124 l0 x7_1).f0) ((rd_T124 l0 x7_1).f1) ((rd_T124 l0 x7_1).f2) true _ A5.out).mono ?_); rintro e w9 ⟨rfl, hb⟩; refine ⟨_, rfl, ?_⟩; have n0_ := A_ (blk_below (g := gb219) (o := .cells #[.int .i64 ((rd_T124 l0 x7_1).f0), .int .i64 ((rd_T124 l0 x7_1).f1), .string ((rd_T124 l0 x7_1).f2)] 124 (0, 0)) (by (with_reducible repeat (first | refine blk_drewN ?_ _ | refine blk_drew ?_ | refine blk_alloc ?_ _)); refine blk_put (cs := #[.int .i64 ((rd_T124 l0 x7_1).f0), .int .i64 ((rd_T124 l0 x7_1).f1), .string (⟨#[]⟩ : ByteArray)]) ?_ 2 _ rfl; (with_reducible repeat (first | refine blk_drewN ?_ _ | refine blk_drew ?_ | refine blk_alloc ?_ _)); refine blk_put (cs := #[.int .i64 ((rd_T124 l0 x7_1).f0), .int .i64 0, .string (⟨#[]⟩ : ByteArray)]) ?_ 1 _ rfl; (with_reducible repeat (first | refine blk_drewN ?_ _ | refine blk_drew ?_ | refine blk_alloc ?_ _)); refine blk_put (cs := #[.int .i64 0, .int .i64 0, .string (⟨#[]⟩ : ByteArray)]) ?_ 0 _ rfl; (with_reducible repeat (first | refine blk_drewN ?_ _ | refine blk_drew ?_ | refine blk_alloc ?_ _)); exact BK219.out) hb); have n1_ := A_ (below_step (Z2 GE219.out) hb); clear BK219; clear HB; have BK219 := n0_; have HB := n1_; clear n0_ n1_; (try clear hb); (try clear hb2); (try clear hk); (try clear hi)))
       go_roundg k1
       case measure => have := HK1.out; omega
       case rel => exact ⟨(wrap64 (x7_1 + 1)), Z17, H', ⟨by have := HK1.out; omega⟩, ⟨Z2 GE219.out⟩⟩
      ·replace c6 := Bool.eq_false_iff.mpr c6
       subst c6
       have H1 : (some false) = some r := by rw [if_neg (show ¬ (false = true) by decide)] at H; exact H
       clear H
       have H := H1
       clear H1
       obtain rfl := Option.some.inj H
       have p218 : 0 ≤ (x7_1 : Int) := of_decide_eq_true Z12
       have q218 : x7_1 < (l0.length : Int) := of_decide_eq_true Z12
       obtain ⟨ad218, e218, hx218_0, hx218_1, hx218_2⟩ := at_T124 HR0.out x7_1 p218 q218
       cases e218
       replace hx218_0 := ZC HB.out hx218_0
       replace hx218_1 := ZC HB.out hx218_1
       replace hx218_2 := ZC HB.out hx218_2
       replace p218 := eq_true p218
       replace q218 := eq_true q218
       go_wp2_with (first | ((with_reducible refine gate_dst (N := 4) rfl ?_); refine box_event ?hg (N := 4) ?hd (cs := #[.int .i64 0, .int .i64 0, .string (⟨#[]⟩ : ByteArray)]) (t := 124) ?hr ?_; (case hd => rfl); (case hg => rfl); (case hr => exact Z16); intro gb219 hg w10 hbox hb; have n0_ := A_ (below_step Z1 hb); have n1_ := A_ (hbox); have n2_ := A_ ((by rw [hg]; exact (below_size Z1) : w.heap.size ≤ gb219)); have n3_ := A_ ((by rw [hg]; exact (below_size Z1) : w.heap.size ≤ gb219)); clear HB; have HB := n0_; have BK219 := n1_; have GW219 := n2_; have GE219 := n3_; clear n0_ n1_ n2_ n3_; clear hb hbox hg; have hcz11_0 : w10.cell? ⟨gb219, 0, none⟩ = some (.int .i64 0) := (blk_cell BK219.out 0).trans rfl; have hcz11_1 : w10.cell? ⟨gb219, 1, none⟩ = some (.int .i64 0) := (blk_cell BK219.out 1).trans rfl; have hcz11_2 : w10.cell? ⟨gb219, 2, none⟩ = some (.string (⟨#[]⟩ : ByteArray)) := (blk_cell BK219.out 2).trans rfl; have hfz11_0 := blk_frozen BK219.out 0; have hfz11_1 := blk_frozen BK219.out 1; have hfz11_2 := blk_frozen BK219.out 2) | ((with_reducible refine gate_callee (f := 90) rfl ?_); refine goesL_ (some 12) rfl rfl Try.func90 (by kernel_rfl) rfl #[.agg #[.int .i64 ((rd_T124 l0 x7_1).f0), .int .i64 ((rd_T124 l0 x7_1).f1), .string ((rd_T124 l0 x7_1).f2)]] rfl Z5 ?_; (with_reducible refine (impl_ValOk.calls k1 ((rd_T124 l0 x7_1).f0) ((rd_T124 l0 x7_1).f1) ((rd_T124 l0 x7_1).f2) false _ A5.out).mono ?_); rintro e w12 ⟨rfl, hb⟩; refine ⟨_, rfl, ?_⟩; have n0_ := A_ (blk_below (g := gb219) (o := .cells #[.int .i64 ((rd_T124 l0 x7_1).f0), .int .i64 ((rd_T124 l0 x7_1).f1), .string ((rd_T124 l0 x7_1).f2)] 124 (0, 0)) (by (with_reducible repeat (first | refine blk_drewN ?_ _ | refine blk_drew ?_ | refine blk_alloc ?_ _)); refine blk_put (cs := #[.int .i64 ((rd_T124 l0 x7_1).f0), .int .i64 ((rd_T124 l0 x7_1).f1), .string (⟨#[]⟩ : ByteArray)]) ?_ 2 _ rfl; (with_reducible repeat (first | refine blk_drewN ?_ _ | refine blk_drew ?_ | refine blk_alloc ?_ _)); refine blk_put (cs := #[.int .i64 ((rd_T124 l0 x7_1).f0), .int .i64 0, .string (⟨#[]⟩ : ByteArray)]) ?_ 1 _ rfl; (with_reducible repeat (first | refine blk_drewN ?_ _ | refine blk_drew ?_ | refine blk_alloc ?_ _)); refine blk_put (cs := #[.int .i64 0, .int .i64 0, .string (⟨#[]⟩ : ByteArray)]) ?_ 0 _ rfl; (with_reducible repeat (first | refine blk_drewN ?_ _ | refine blk_drew ?_ | refine blk_alloc ?_ _)); exact BK219.out) hb); have n1_ := A_ (below_step (Z2 GE219.out) hb); clear BK219; clear HB; have BK219 := n0_; have HB := n1_; clear n0_ n1_; (try clear hb); (try clear hb2); (try clear hk); (try clear hi)))
       go_ret
       exact ⟨Z11, Z2 GE219.out⟩
     ·rw [if_neg c4] at H
      exact absurd H (by simp)
    ·rw [if_neg c3] at H
     exact absurd H (by simp)
   ·rw [if_neg c2] at H
    have c2b0 : decide (x7_1 < (l0.length : Int)) = false := decide_eq_false c2
    clear c2
    obtain rfl := Option.some.inj H
    go_wp2
    go_ret
    exact ⟨Z11, Z1⟩
end Go.Proofs.Ytmphggpibaolcaa.PFnExactHistOk
