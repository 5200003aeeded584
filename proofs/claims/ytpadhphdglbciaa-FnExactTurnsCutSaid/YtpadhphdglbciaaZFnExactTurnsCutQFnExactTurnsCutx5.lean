/- Walks of the functions that the law 'FnExactTurnsCut' reaches, part 5: for each a Lean function and the proof that Go's comes to just its answer (lines of the print, under own names; no condition). -/
import Derived.Test.YtpadhphdglbciaaZFnExactTurnsCutQFnExactTurnsCutx0
import Derived.Test.YtpadhphdglbciaaZFnExactTurnsCutQFnExactTurnsCutx2
import Derived.Test.YtpadhphdglbciaaZFnExactTurnsCutQFnExactTurnsCutx4
namespace Go.Proofs.Ytpadhphdglbciaa.PFnExactTurnsCut
open Go.RowKit Go.Proofs.YtpadhphdglbciaaW.PrintWords Go.Proofs.YtpadhphdglbciaaW.PrintLast Go.Proofs.YtpadhphdglbciaaW.PrintMore
attribute [local go_sem] max2_int min2_int max_two min_two max_three min_three max_four min_four
set_option linter.unusedVariables false
set_option linter.unusedSimpArgs false
mutual
def spec_cutTurns.l0 : Nat → List (S122) → Int → List (S122) → Int → Option ((List (S122)))
 | 0, _, _, _, _ => none
 | k + 1, x0, x1, x5, x6 => if x6 < (x0.length : Int) then (if 0 ≤ x6 then ((spec_copyUpdate.f ((rd_T122 x0 x6).f2.f0) ((rd_T122 x0 x6).f2.f1) ((rd_T122 x0 x6).f2.f2) ((rd_T122 x0 x6).f2.f3)).bind fun bt166 => (spec_cutTurns.l1 k x0 x1 x5 x6 ((rd_T122 x0 x6).f0) ((rd_T122 x0 x6).f1) bt166.1 bt166.2.1 bt166.2.2.1 bt166.2.2.2)) else (none)) else (some x5)
def spec_cutTurns.l1 : Nat → List (S122) → Int → List (S122) → Int → Int → Int → List (S92) → Int → List (S137) → Int → Option ((List (S122)))
 | 0, _, _, _, _, _, _, _, _, _, _ => none
 | k + 1, x0, x1, x5, x6, x175000, x175001, x175002, x175003, x175004, x175005 => if x175000 = 1 then (if x175001 > x1 then (if x5.length < 1759218604441 then (spec_cutTurns.l1 k x0 x1 (x5 ++ [(⟨1, x1, (⟨([] : List (S92)), 0, ([] : List (S137)), 0⟩ : S120)⟩ : S122)]) x6 x175000 (wrap64 (x175001 - x1)) x175002 x175003 x175004 x175005) else (none)) else (if x5.length < 1759218604441 then (spec_cutTurns.l0 k x0 x1 (x5 ++ [(⟨x175000, x175001, (⟨x175002, x175003, x175004, x175005⟩ : S120)⟩ : S122)]) (wrap64 (x6 + 1))) else (none))) else (if x5.length < 1759218604441 then (spec_cutTurns.l0 k x0 x1 (x5 ++ [(⟨x175000, x175001, (⟨x175002, x175003, x175004, x175005⟩ : S120)⟩ : S122)]) (wrap64 (x6 + 1))) else (none))
end
def spec_cutTurns.f (k : Nat) (l0 : List (S122)) (a1 : Int) : Option ((List (S122))) := spec_cutTurns.l0 k l0 a1 (([] : List (S122))) 0
theorem spec_cutTurns.mono_l : ∀ k, (∀ y0 y1 y2 y3, LeO (spec_cutTurns.l0 k y0 y1 y2 y3) (spec_cutTurns.l0 (k + 1) y0 y1 y2 y3)) ∧ (∀ y0 y1 y2 y3 y4 y5 y6 y7 y8 y9, LeO (spec_cutTurns.l1 k y0 y1 y2 y3 y4 y5 y6 y7 y8 y9) (spec_cutTurns.l1 (k + 1) y0 y1 y2 y3 y4 y5 y6 y7 y8 y9))
 | 0 => ⟨fun _ _ _ _ r h => by simp [spec_cutTurns.l0] at h, fun _ _ _ _ _ _ _ _ _ _ r h => by simp [spec_cutTurns.l1] at h⟩
 | k + 1 => by
  obtain ⟨ih0, ih1⟩ := spec_cutTurns.mono_l k
  refine ⟨?_, ?_⟩
  ·intro y0 y1 y2 y3
   unfold spec_cutTurns.l0
   repeat' first
   | (with_reducible exact ih0 _ _ _ _)
   | (with_reducible exact ih1 _ _ _ _ _ _ _ _ _ _)
   | (with_reducible exact LeO.refl _)
   | (with_reducible exact LeO.none _)
   | (with_reducible refine LeO.ite ?_ ?_)
   | (with_reducible refine LeO.bind ?_ (fun _ => ?_))
   | exact ih0 _ _ _ _
   | exact ih1 _ _ _ _ _ _ _ _ _ _
   | exact LeO.none _
   | refine LeO.ite ?_ ?_
   | refine LeO.bind ?_ (fun _ => ?_)
  ·intro y0 y1 y2 y3 y4 y5 y6 y7 y8 y9
   unfold spec_cutTurns.l1
   repeat' first
   | (with_reducible exact ih0 _ _ _ _)
   | (with_reducible exact ih1 _ _ _ _ _ _ _ _ _ _)
   | (with_reducible exact LeO.refl _)
   | (with_reducible exact LeO.none _)
   | (with_reducible refine LeO.ite ?_ ?_)
   | (with_reducible refine LeO.bind ?_ (fun _ => ?_))
   | exact ih0 _ _ _ _
   | exact ih1 _ _ _ _ _ _ _ _ _ _
   | exact LeO.none _
   | refine LeO.ite ?_ ?_
   | refine LeO.bind ?_ (fun _ => ?_)
theorem spec_cutTurns.mono : ∀ a0 a1 k, LeO (spec_cutTurns.f k a0 a1) (spec_cutTurns.f (k + 1) a0 a1) := by
 intro a0 a1 k
 obtain ⟨ih0, ih1⟩ := spec_cutTurns.mono_l k
 unfold spec_cutTurns.f
 repeat' first
   | (with_reducible exact ih0 _ _ _ _)
   | (with_reducible exact ih1 _ _ _ _ _ _ _ _ _ _)
   | (with_reducible exact LeO.refl _)
   | (with_reducible exact LeO.none _)
   | (with_reducible refine LeO.ite ?_ ?_)
   | (with_reducible refine LeO.bind ?_ (fun _ => ?_))
   | exact ih0 _ _ _ _
   | exact ih1 _ _ _ _ _ _ _ _ _ _
   | exact LeO.none _
   | refine LeO.ite ?_ ?_
   | refine LeO.bind ?_ (fun _ => ?_)
def spec_cutTurns.T5 : Bool × List (List Nat × List Nat) := (true, [([], []), ([], []), ([0, 1], [0, 1]), ([2], [2]), ([3], [3]), ([], []), ([], []), ([5, 6], [5, 6]), ([7], [7]), ([8], [8]), ([], []), ([], []), ([10, 11], [10, 11]), ([12], [12]), ([13], [13]), ([14], [14]), ([4, 9, 15], [4, 9, 15]), ([], []), ([17, 16, 15, 0, 1, 2, 3, 4, 5, 6, 7, 8, 9, 10, 11, 12, 13, 14, 15, 16, 17], [16, 17])])
def spec_cutTurns.B5 : List Nat := [0, 0, 3, 7, 15, 0, 0, 96, 224, 480, 0, 0, 3072, 7168, 15360, 31744, 65535, 0, 262143]
theorem spec_cutTurns.tab5 : rtab .any (opsOf Try.f82 5) = spec_cutTurns.T5 := by kernel_rfl
theorem spec_cutTurns.bits5 : waitsOk spec_cutTurns.T5.2 spec_cutTurns.B5 = true := by kernel_rfl
set_option maxHeartbeats 8000000 in
set_option maxRecDepth 100000 in
theorem spec_cutTurns.calls (k : Nat) (A0 : Option Addr) (c0 : Nat) (l0 : List (S122)) (a1 : Int) (r : List (S122)) (w : World) (hr0 : Kd.C k122 w A0 l0.length l0) (hc0 : l0.length ≤ c0) (h : spec_cutTurns.f k l0 a1 = some r) :
  Calls Try.prog 82 #[.slice A0 l0.length c0, .int .i64 a1] w fun e w' => ∃ v0_ : Value, e = .returned (v0_) ∧ Kd.S k122 122 w' w.heap.size (fun _ => True) v0_ r ∧ Below w.heap.size w w' := by
 have hu120 := Try.underlying120
 have hu122 := Try.underlying122
 have HR0 := A_ hr0
 have HC0 := A_ hc0
 clear hr0 hc0
 have HB := A_ (Below.refl w.heap.size w)
 have H : (spec_cutTurns.l0 k l0 a1 (([] : List (S122))) 0) = some r := h
 clear h
 obtain ⟨y160, hy160⟩ : ∃ y_ : List (S122), y_ = (([] : List (S122))) := ⟨_, rfl⟩
 replace H : (spec_cutTurns.l0 k l0 a1 y160 0) = some r := by first | (rw [hy160]; with_reducible exact H) | (have H2_ := (Option.bind_some _ _).symm.trans H; rw [hy160]; with_reducible exact H2_) | (have H2_ := (Option.bind_some _ _).symm.trans H; with_reducible exact H2_) | with_reducible exact H | (rw [hy160]; exact H) | exact H
 have Ny160 := A_ hy160
 clear hy160
 have H' := A_ H
 clear H
 go_enter Try.func82, Try.ntmps82
 go_wp2_with (first | ((with_reducible refine gate_dst (N := 8) rfl ?_); refine Kd.S_lit k122 _ 122 ?hg (N := 8) ?hd (xs := ([] : List (S122))) (inner := []) (ok := fun _ => True) (okp := fun _ => True) ?hr ?hp (fun _ hk => hk) trivial (Below.refl _ _) (Nat.le_refl _) (by simp) ?_; (case hd => rfl); (case hg => rfl); (case hr => exact Z11); (case hp => exact (Reps.none _ _)); intro v161 w3 ho4 hb hg_ hnew_; clear hg_ hnew_; (first | rw [← Ny160.out] at ho4 | (simp only [Int.reduceToNat] at ho4; rw [← Ny160.out] at ho4)); have n0_ := A_ (Kd.S_lower ho4 (below_size Z0)); have n1_ := A_ (below_step Z0 hb); clear HB; have HO162 := n0_; have HB := n1_; clear n0_ n1_; clear hb ho4))
 go_loopg [5, 6] k (fun kq v5 v6 w' => ∃ (x5_1 : List (S122)) (x6_1 : Int), v6 = .int .i64 x6_1 ∧ Aside0 (spec_cutTurns.l0 kq l0 a1 x5_1 x6_1 = some r) ∧ Aside0 (kq ≤ k) ∧ Aside0 (Kd.S k122 122 w' w.heap.size (fun _ => True) v5 x5_1) ∧ Aside0 (Below w.heap.size w w'))
 case atStart => exact ⟨(y160), (0), Z12, H', ⟨Nat.le_refl _⟩, ⟨Z9 HO162.out⟩, ⟨Z0⟩⟩
 case round =>
  clear H'
  try clear p2
  obtain ⟨x5_1, x6_1, rfl, HA, HK1, HO_5, HB⟩ := hrel
  cases gk with
  | zero => exact absurd HA.out (by simp [spec_cutTurns.l0])
  | succ k1 =>
   have H := HA.out
   clear HA
   simp only [spec_cutTurns.l0] at H
   by_cases c5 : x6_1 < (l0.length : Int)
   ·rw [if_pos c5] at H
    have c5b0 : decide (x6_1 < (l0.length : Int)) = true := decide_eq_true c5
    clear c5
    by_cases c6 : 0 ≤ x6_1
    ·rw [if_pos c6] at H
     have c6b0 : decide (0 ≤ x6_1) = true := decide_eq_true c6
     clear c6
     replace H := Option.bind_eq_some_iff.mp H
     obtain ⟨⟨t166, t169, t170, t173⟩, A70, H⟩ := H
     replace H : (spec_cutTurns.l1 k1 l0 a1 x5_1 x6_1 ((rd_T122 l0 x6_1).f0) ((rd_T122 l0 x6_1).f1) t166 t169 t170 t173) = some r := H
     have A7 := A_ A70
     clear A70
     have H' := A_ H
     clear H
     try go_wp2
     have n0_ := A_ (Kd.S_drew HO_5.out)
     have n1_ := A_ (below_drew1 HB.out)
     clear HO_5
     clear HB
     have HO_5 := n0_
     have HB := n1_
     clear n0_ n1_
     have p163 : 0 ≤ (x6_1 : Int) := of_decide_eq_true Z7
     have q163 : x6_1 < (l0.length : Int) := of_decide_eq_true Z7
     obtain ⟨ad163, A163_2, c163_2, A163_4, c163_4, e163, hx163_0, hx163_1, hx163_2, hx163_3, hx163_4, hx163_5, hl163_2, hi163_2, hl163_4, hi163_4⟩ := at_T122 HR0.out x6_1 p163 q163
     have hw163_5 := hx163_5
     have hw163_4 := hx163_4
     have hw163_3 := hx163_3
     have hw163_2 := hx163_2
     have hw163_1 := hx163_1
     have hw163_0 := hx163_0
     cases e163
     replace hx163_0 := ZC HB.out hx163_0
     replace hx163_1 := ZC HB.out hx163_1
     replace hx163_2 := ZC HB.out hx163_2
     replace hx163_3 := ZC HB.out hx163_3
     replace hx163_4 := ZC HB.out hx163_4
     replace hx163_5 := ZC HB.out hx163_5
     have HR163_2 := A_ hi163_2
     have HC163_2 := A_ hl163_2
     clear hi163_2 hl163_2
     have HR163_4 := A_ hi163_4
     have HC163_4 := A_ hl163_4
     clear hi163_4 hl163_4
     replace p163 := eq_true p163
     replace q163 := eq_true q163
     have p164 : 0 ≤ (x6_1 : Int) := of_decide_eq_true Z7
     have q164 : x6_1 < (l0.length : Int) := of_decide_eq_true Z7
     obtain ⟨ad164, A164_2, c164_2, A164_4, c164_4, e164, hx164_0, hx164_1, hx164_2, hx164_3, hx164_4, hx164_5, hl164_2, hi164_2, hl164_4, hi164_4⟩ := at_T122 HR0.out x6_1 p164 q164
     have hw164_5 := hx164_5
     have hw164_4 := hx164_4
     have hw164_3 := hx164_3
     have hw164_2 := hx164_2
     have hw164_1 := hx164_1
     have hw164_0 := hx164_0
     obtain rfl : ad163 = ad164 := (by injection e164)
     replace hx164_0 := ZC HB.out hx164_0
     replace hx164_1 := ZC HB.out hx164_1
     replace hx164_2 := ZC HB.out hx164_2
     replace hx164_3 := ZC HB.out hx164_3
     replace hx164_4 := ZC HB.out hx164_4
     replace hx164_5 := ZC HB.out hx164_5
     have HR164_2 := A_ hi164_2
     have HC164_2 := A_ hl164_2
     clear hi164_2 hl164_2
     have HR164_4 := A_ hi164_4
     have HC164_4 := A_ hl164_4
     clear hi164_4 hl164_4
     replace p164 := eq_true p164
     replace q164 := eq_true q164
     have ea_ := Option.some.inj (hx163_2.symm.trans hx164_2)
     injection ea_ with ea_ en_ ec_
     subst ea_
     subst ec_
     clear en_
     have ea_ := Option.some.inj (hx163_4.symm.trans hx164_4)
     injection ea_ with ea_ en_ ec_
     subst ea_
     subst ec_
     clear en_
     have p165 : 0 ≤ (x6_1 : Int) := of_decide_eq_true Z7
     have q165 : x6_1 < (l0.length : Int) := of_decide_eq_true Z7
     obtain ⟨ad165, A165_2, c165_2, A165_4, c165_4, e165, hx165_0, hx165_1, hx165_2, hx165_3, hx165_4, hx165_5, hl165_2, hi165_2, hl165_4, hi165_4⟩ := at_T122 HR0.out x6_1 p165 q165
     have hw165_5 := hx165_5
     have hw165_4 := hx165_4
     have hw165_3 := hx165_3
     have hw165_2 := hx165_2
     have hw165_1 := hx165_1
     have hw165_0 := hx165_0
     obtain rfl : ad163 = ad165 := (by injection e165)
     replace hx165_0 := ZC HB.out hx165_0
     replace hx165_1 := ZC HB.out hx165_1
     replace hx165_2 := ZC HB.out hx165_2
     replace hx165_3 := ZC HB.out hx165_3
     replace hx165_4 := ZC HB.out hx165_4
     replace hx165_5 := ZC HB.out hx165_5
     have HR165_2 := A_ hi165_2
     have HC165_2 := A_ hl165_2
     clear hi165_2 hl165_2
     have HR165_4 := A_ hi165_4
     have HC165_4 := A_ hl165_4
     clear hi165_4 hl165_4
     replace p165 := eq_true p165
     replace q165 := eq_true q165
     have ea_ := Option.some.inj (hx163_2.symm.trans hx165_2)
     injection ea_ with ea_ en_ ec_
     subst ea_
     subst ec_
     clear en_
     have ea_ := Option.some.inj (hx163_4.symm.trans hx165_4)
     injection ea_ with ea_ en_ ec_
     subst ea_
     subst ec_
     clear en_
     refine start_ (n := 19) (S := fun w' => w'.cell? (ad163.add ((x6_1).toNat * 6)) = some (.int .i64 ((rd_T122 l0 x6_1).f0)) ∧ w'.cell? ⟨(ad163.add ((x6_1).toNat * 6)).block, (ad163.add ((x6_1).toNat * 6)).off + 1, none⟩ = some (.int .i64 ((rd_T122 l0 x6_1).f1)) ∧ w'.cell? ⟨(ad163.add ((x6_1).toNat * 6)).block, (ad163.add ((x6_1).toNat * 6)).off + 2, none⟩ = some (.slice A163_2 ((rd_T122 l0 x6_1).f2.f0).length c163_2) ∧ w'.cell? ⟨(ad163.add ((x6_1).toNat * 6)).block, (ad163.add ((x6_1).toNat * 6)).off + 3, none⟩ = some (.int .i64 ((rd_T122 l0 x6_1).f2.f1)) ∧ w'.cell? ⟨(ad163.add ((x6_1).toNat * 6)).block, (ad163.add ((x6_1).toNat * 6)).off + 4, none⟩ = some (.slice A163_4 ((rd_T122 l0 x6_1).f2.f2).length c163_4) ∧ w'.cell? ⟨(ad163.add ((x6_1).toNat * 6)).block, (ad163.add ((x6_1).toNat * 6)).off + 5, none⟩ = some (.int .i64 ((rd_T122 l0 x6_1).f2.f3)) ∧ w'.cell? (ad163.add ((x6_1).toNat * 6)) = some (.int .i64 ((rd_T122 l0 x6_1).f0)) ∧ w'.cell? ⟨(ad163.add ((x6_1).toNat * 6)).block, (ad163.add ((x6_1).toNat * 6)).off + 1, none⟩ = some (.int .i64 ((rd_T122 l0 x6_1).f1)) ∧ w'.cell? ⟨(ad163.add ((x6_1).toNat * 6)).block, (ad163.add ((x6_1).toNat * 6)).off + 2, none⟩ = some (.slice A163_2 ((rd_T122 l0 x6_1).f2.f0).length c163_2) ∧ w'.cell? ⟨(ad163.add ((x6_1).toNat * 6)).block, (ad163.add ((x6_1).toNat * 6)).off + 3, none⟩ = some (.int .i64 ((rd_T122 l0 x6_1).f2.f1)) ∧ w'.cell? ⟨(ad163.add ((x6_1).toNat * 6)).block, (ad163.add ((x6_1).toNat * 6)).off + 4, none⟩ = some (.slice A163_4 ((rd_T122 l0 x6_1).f2.f2).length c163_4) ∧ w'.cell? ⟨(ad163.add ((x6_1).toNat * 6)).block, (ad163.add ((x6_1).toNat * 6)).off + 5, none⟩ = some (.int .i64 ((rd_T122 l0 x6_1).f2.f3)) ∧ w'.cell? (ad163.add ((x6_1).toNat * 6)) = some (.int .i64 ((rd_T122 l0 x6_1).f0)) ∧ w'.cell? ⟨(ad163.add ((x6_1).toNat * 6)).block, (ad163.add ((x6_1).toNat * 6)).off + 1, none⟩ = some (.int .i64 ((rd_T122 l0 x6_1).f1)) ∧ w'.cell? ⟨(ad163.add ((x6_1).toNat * 6)).block, (ad163.add ((x6_1).toNat * 6)).off + 2, none⟩ = some (.slice A163_2 ((rd_T122 l0 x6_1).f2.f0).length c163_2) ∧ w'.cell? ⟨(ad163.add ((x6_1).toNat * 6)).block, (ad163.add ((x6_1).toNat * 6)).off + 3, none⟩ = some (.int .i64 ((rd_T122 l0 x6_1).f2.f1)) ∧ w'.cell? ⟨(ad163.add ((x6_1).toNat * 6)).block, (ad163.add ((x6_1).toNat * 6)).off + 4, none⟩ = some (.slice A163_4 ((rd_T122 l0 x6_1).f2.f2).length c163_4) ∧ w'.cell? ⟨(ad163.add ((x6_1).toNat * 6)).block, (ad163.add ((x6_1).toNat * 6)).off + 5, none⟩ = some (.int .i64 ((rd_T122 l0 x6_1).f2.f3))) (ds := []) #[F,F,F,F,F,F,F,F,F,F,F,F,F,F,F,F,F,F,F] (by kernel_rfl) rfl rfl ⟨(ZC HB.out hw163_0 :), (ZC HB.out hw163_1 :), (ZC HB.out hw163_2 :), (ZC HB.out hw163_3 :), (ZC HB.out hw163_4 :), (ZC HB.out hw163_5 :), (ZC HB.out hw164_0 :), (ZC HB.out hw164_1 :), (ZC HB.out hw164_2 :), (ZC HB.out hw164_3 :), (ZC HB.out hw164_4 :), (ZC HB.out hw164_5 :), (ZC HB.out hw165_0 :), (ZC HB.out hw165_1 :), (ZC HB.out hw165_2 :), (ZC HB.out hw165_3 :), (ZC HB.out hw165_4 :), (ZC HB.out hw165_5 :)⟩ (fun hHeld => ?_); refine with_tabW spec_cutTurns.tab5 spec_cutTurns.bits5 (fun HT_ HW_ => ?_)
     generalize wr.drew = w8 at HO_5 HB HR163_2 HR163_4 HR164_2 HR164_4 HR165_2 HR165_4 hx163_0 hx163_1 hx163_2 hx163_3 hx163_4 hx163_5 hx164_0 hx164_1 hx164_2 hx164_3 hx164_4 hx164_5 hx165_0 hx165_1 hx165_2 hx165_3 hx165_4 hx165_5 hHeld ⊢
     refine pure_ (i := 0) (N := some 15) (v := ?_) (a' := ?_) #[T,F,F,F,F,F,F,F,F,F,F,F,F,F,F,F,F,F,F] rfl rfl ZA ZF (Or.inl ⟨by rfl, ?_⟩) ?_ ?_
     rotate_left
     ·exact Z36
     rotate_left
     ·exact Z8
     refine pure_ (i := 1) (N := some 16) (v := ?_) (a' := ?_) #[T,T,F,F,F,F,F,F,F,F,F,F,F,F,F,F,F,F,F] rfl rfl ZA ZF (Or.inl ⟨by rfl, ?_⟩) ?_ ?_
     rotate_left
     ·exact Z36
     rotate_left
     ·exact Z8
     refine pure_ (i := 2) (N := some 17) (v := ?_) (a' := ?_) #[T,T,T,F,F,F,F,F,F,F,F,F,F,F,F,F,F,F,F] rfl rfl ZA ZF (Or.inl ⟨by rfl, ?_⟩) ?_ ?_
     rotate_left
     ·exact Z36
     rotate_left
     ·exact Z8
     refine pure_ (i := 3) (N := some 18) (v := ?_) (a' := ?_) #[T,T,T,T,F,F,F,F,F,F,F,F,F,F,F,F,F,F,F] rfl rfl ZA ZF (Or.inl ⟨by rfl, ?_⟩) ?_ ?_
     rotate_left
     ·exact Z36
     rotate_left
     ·exact Z8
     refine pure_ (i := 5) (N := some 20) (v := ?_) (a' := ?_) #[T,T,T,T,F,T,F,F,F,F,F,F,F,F,F,F,F,F,F] rfl rfl ZA ZF (Or.inl ⟨by rfl, ?_⟩) ?_ ?_
     rotate_left
     ·exact Z36
     rotate_left
     ·exact Z8
     refine pure_ (i := 6) (N := some 21) (v := ?_) (a' := ?_) #[T,T,T,T,F,T,T,F,F,F,F,F,F,F,F,F,F,F,F] rfl rfl ZA ZF (Or.inl ⟨by rfl, ?_⟩) ?_ ?_
     rotate_left
     ·exact Z36
     rotate_left
     ·exact Z8
     refine pure_ (i := 7) (N := some 22) (v := ?_) (a' := ?_) #[T,T,T,T,F,T,T,T,F,F,F,F,F,F,F,F,F,F,F] rfl rfl ZA ZF (Or.inl ⟨by rfl, ?_⟩) ?_ ?_
     rotate_left
     ·exact Z36
     rotate_left
     ·exact Z8
     refine pure_ (i := 8) (N := some 23) (v := ?_) (a' := ?_) #[T,T,T,T,F,T,T,T,T,F,F,F,F,F,F,F,F,F,F] rfl rfl ZA ZF (Or.inl ⟨by rfl, ?_⟩) ?_ ?_
     rotate_left
     ·exact Z36
     rotate_left
     ·exact Z8
     refine pure_ (i := 10) (N := some 25) (v := ?_) (a' := ?_) #[T,T,T,T,F,T,T,T,T,F,T,F,F,F,F,F,F,F,F] rfl rfl ZA ZF (Or.inl ⟨by rfl, ?_⟩) ?_ ?_
     rotate_left
     ·exact Z36
     rotate_left
     ·exact Z8
     refine pure_ (i := 11) (N := some 26) (v := ?_) (a' := ?_) #[T,T,T,T,F,T,T,T,T,F,T,T,F,F,F,F,F,F,F] rfl rfl ZA ZF (Or.inl ⟨by rfl, ?_⟩) ?_ ?_
     rotate_left
     ·exact Z36
     rotate_left
     ·exact Z8
     refine pure_ (i := 12) (N := some 27) (v := ?_) (a' := ?_) #[T,T,T,T,F,T,T,T,T,F,T,T,T,F,F,F,F,F,F] rfl rfl ZA ZF (Or.inl ⟨by rfl, ?_⟩) ?_ ?_
     rotate_left
     ·exact Z36
     rotate_left
     ·exact Z8
     refine pure_ (i := 13) (N := some 28) (v := ?_) (a' := ?_) #[T,T,T,T,F,T,T,T,T,F,T,T,T,T,F,F,F,F,F] rfl rfl ZA ZF (Or.inl ⟨by rfl, ?_⟩) ?_ ?_
     rotate_left
     ·exact Z36
     rotate_left
     ·exact Z8
     refine take_ (i := 4) (N := some 19) (v := ?_) (a' := ?_) #[T,T,T,T,T,T,T,T,T,F,T,T,T,T,F,F,F,F,F] rfl rfl (take_ofW HT_.out HW_.out (by kernel_rfl)) ZF (Or.inl ⟨by rfl, ?_⟩) hHeld ?_ ?_
     rotate_left
     ·rintro w' ⟨s0, s1, s2, s3, s4, s5, s6, s7, s8, s9, s10, s11, s12, s13, s14, s15, s16, s17⟩
      go_simp
      with_reducible rfl
     rotate_left
     ·exact Z8
     refine take_ (i := 9) (N := some 24) (v := ?_) (a' := ?_) #[T,T,T,T,T,T,T,T,T,T,T,T,T,T,F,F,F,F,F] rfl rfl (take_ofW HT_.out HW_.out (by kernel_rfl)) ZF (Or.inl ⟨by rfl, ?_⟩) hHeld ?_ ?_
     rotate_left
     ·rintro w' ⟨s0, s1, s2, s3, s4, s5, s6, s7, s8, s9, s10, s11, s12, s13, s14, s15, s16, s17⟩
      go_simp
      with_reducible rfl
     rotate_left
     ·exact Z8
     refine take_ (i := 14) (N := some 29) (v := ?_) (a' := ?_) #[T,T,T,T,T,T,T,T,T,T,T,T,T,T,T,F,F,F,F] rfl rfl (take_ofW HT_.out HW_.out (by kernel_rfl)) ZF (Or.inl ⟨by rfl, ?_⟩) hHeld ?_ ?_
     rotate_left
     ·rintro w' ⟨s0, s1, s2, s3, s4, s5, s6, s7, s8, s9, s10, s11, s12, s13, s14, s15, s16, s17⟩
      go_simp
      with_reducible rfl
     rotate_left
     ·exact Z8
     refine join_ (σ := Value × Value × Nat) 1 #[T,T,T,T,T,T,T,T,T,T,T,T,T,T,T,T,T,T,F] (fun s_ => [(30, .agg #[s_.1, .int .i64 t169, s_.2.1, .int .i64 t173]), (7, .pointer (some ⟨s_.2.2, 0, none⟩)), (31, .agg #[.int .i64 ((rd_T122 l0 x6_1).f0), .int .i64 ((rd_T122 l0 x6_1).f1), s_.1, .int .i64 t169, s_.2.1, .int .i64 t173])]) (fun s_ w' => (w'.cell? (ad163.add ((x6_1).toNat * 6)) = some (.int .i64 ((rd_T122 l0 x6_1).f0)) ∧ w'.cell? ⟨(ad163.add ((x6_1).toNat * 6)).block, (ad163.add ((x6_1).toNat * 6)).off + 1, none⟩ = some (.int .i64 ((rd_T122 l0 x6_1).f1)) ∧ w'.cell? ⟨(ad163.add ((x6_1).toNat * 6)).block, (ad163.add ((x6_1).toNat * 6)).off + 2, none⟩ = some (.slice A163_2 ((rd_T122 l0 x6_1).f2.f0).length c163_2) ∧ w'.cell? ⟨(ad163.add ((x6_1).toNat * 6)).block, (ad163.add ((x6_1).toNat * 6)).off + 3, none⟩ = some (.int .i64 ((rd_T122 l0 x6_1).f2.f1)) ∧ w'.cell? ⟨(ad163.add ((x6_1).toNat * 6)).block, (ad163.add ((x6_1).toNat * 6)).off + 4, none⟩ = some (.slice A163_4 ((rd_T122 l0 x6_1).f2.f2).length c163_4) ∧ w'.cell? ⟨(ad163.add ((x6_1).toNat * 6)).block, (ad163.add ((x6_1).toNat * 6)).off + 5, none⟩ = some (.int .i64 ((rd_T122 l0 x6_1).f2.f3)) ∧ w'.cell? (ad163.add ((x6_1).toNat * 6)) = some (.int .i64 ((rd_T122 l0 x6_1).f0)) ∧ w'.cell? ⟨(ad163.add ((x6_1).toNat * 6)).block, (ad163.add ((x6_1).toNat * 6)).off + 1, none⟩ = some (.int .i64 ((rd_T122 l0 x6_1).f1)) ∧ w'.cell? ⟨(ad163.add ((x6_1).toNat * 6)).block, (ad163.add ((x6_1).toNat * 6)).off + 2, none⟩ = some (.slice A163_2 ((rd_T122 l0 x6_1).f2.f0).length c163_2) ∧ w'.cell? ⟨(ad163.add ((x6_1).toNat * 6)).block, (ad163.add ((x6_1).toNat * 6)).off + 3, none⟩ = some (.int .i64 ((rd_T122 l0 x6_1).f2.f1)) ∧ w'.cell? ⟨(ad163.add ((x6_1).toNat * 6)).block, (ad163.add ((x6_1).toNat * 6)).off + 4, none⟩ = some (.slice A163_4 ((rd_T122 l0 x6_1).f2.f2).length c163_4) ∧ w'.cell? ⟨(ad163.add ((x6_1).toNat * 6)).block, (ad163.add ((x6_1).toNat * 6)).off + 5, none⟩ = some (.int .i64 ((rd_T122 l0 x6_1).f2.f3)) ∧ w'.cell? (ad163.add ((x6_1).toNat * 6)) = some (.int .i64 ((rd_T122 l0 x6_1).f0)) ∧ w'.cell? ⟨(ad163.add ((x6_1).toNat * 6)).block, (ad163.add ((x6_1).toNat * 6)).off + 1, none⟩ = some (.int .i64 ((rd_T122 l0 x6_1).f1)) ∧ w'.cell? ⟨(ad163.add ((x6_1).toNat * 6)).block, (ad163.add ((x6_1).toNat * 6)).off + 2, none⟩ = some (.slice A163_2 ((rd_T122 l0 x6_1).f2.f0).length c163_2) ∧ w'.cell? ⟨(ad163.add ((x6_1).toNat * 6)).block, (ad163.add ((x6_1).toNat * 6)).off + 3, none⟩ = some (.int .i64 ((rd_T122 l0 x6_1).f2.f1)) ∧ w'.cell? ⟨(ad163.add ((x6_1).toNat * 6)).block, (ad163.add ((x6_1).toNat * 6)).off + 4, none⟩ = some (.slice A163_4 ((rd_T122 l0 x6_1).f2.f2).length c163_4) ∧ w'.cell? ⟨(ad163.add ((x6_1).toNat * 6)).block, (ad163.add ((x6_1).toNat * 6)).off + 5, none⟩ = some (.int .i64 ((rd_T122 l0 x6_1).f2.f3))) ∧ (Kd.R k92 92 w' w.heap.size (fun _ => True) s_.1 t166) ∧ (Kd.R k137 137 w' w.heap.size (fun _ => True) s_.2.1 t170) ∧ (Kd.S k122 122 w' w.heap.size (fun k_ => some k_ ≠ (s_.1 : Value).ownBlock ∧ some k_ ≠ (s_.2.1 : Value).ownBlock ∧ k_ ≠ s_.2.2) u5 x5_1) ∧ (w'.heap[s_.2.2]? = some (.cells #[.int .i64 0, .int .i64 0, .slice none 0 0, .int .i64 0, .slice none 0 0, .int .i64 0] 122 (0, 0))) ∧ (w.heap.size ≤ s_.2.2) ∧ (w.heap.size ≤ s_.2.2) ∧ (Below w.heap.size w w')) ?_ ?_
     rotate_left
     ·intro hCont
      refine two_ (i := 15) (j := 17) (Ni := some 30) (Nj := some 7) #[T,T,T,T,T,T,T,T,T,T,T,T,T,T,T,T,F,F,F] #[T,T,T,T,T,T,T,T,T,T,T,T,T,T,T,F,F,T,F] rfl rfl rfl rfl (two_of HT_.out (by kernel_rfl)) (by decide) (by decide) (fun K hK => ?_) (fun K hK => ?_)
      ·skip
       refine goes_ Try.func97 (by kernel_rfl) rfl #[.agg #[.slice A163_2 ((rd_T122 l0 x6_1).f2.f0).length c163_2, .int .i64 ((rd_T122 l0 x6_1).f2.f1), .slice A163_4 ((rd_T122 l0 x6_1).f2.f2).length c163_4, .int .i64 ((rd_T122 l0 x6_1).f2.f3)]] (by rfl) rfl rfl Z3 ?_
       with_reducible refine (spec_copyUpdate.calls _ _ ((rd_T122 l0 x6_1).f2.f0) ((rd_T122 l0 x6_1).f2.f1) _ _ ((rd_T122 l0 x6_1).f2.f2) ((rd_T122 l0 x6_1).f2.f3) t166 t169 t170 t173 _ ?side1 ?side2 ?side3 ?side4 A7.out).mono ?_
       (case side1 => exact Z6 HR165_2.out)
       (case side2 => exact HC165_2.out)
       (case side3 => exact Z6 HR165_4.out)
       (case side4 => exact HC165_4.out)
       rintro e w9 ⟨v167, v171, rfl, ho0, ho1, hb⟩
       refine ⟨_, rfl, ?_⟩
       have n0_ := A_ (Kd.S_mono (Kd.S_told (Kd.S_told (Kd.S_old (Z9 HO_5.out) hb) (Kd.R_base ho0)) (Kd.R_base ho1)) (fun _ h_ => h_.1))
       have n1_ := A_ (Kd.R_lower ho0 (below_size Z0))
       have n2_ := A_ (Kd.R_lower ho1 (below_size Z0))
       have n3_ := A_ (below_step Z0 hb)
       clear HO_5
       clear HB
       have HO_5 := n0_
       have HO168 := n1_
       have HO172 := n2_
       have HB := n3_
       clear n0_ n1_ n2_ n3_
       (try clear hb)
       (try clear hb2)
       (try clear hk)
       (try clear hi)
       (try clear ho0)
       (try clear ho1)
       obtain ⟨Ao10, co10, eo10⟩ := Kd.R_slice HO172.out
       (first | subst eo10 | (injection eo10 with f1_ f2_ f3_; have f4_ := f1_.symm; have f5_ := f3_.symm; clear f1_ f2_ f3_; subst f4_; subst f5_))
       obtain ⟨Ao11, co11, eo11⟩ := Kd.R_slice HO168.out
       (first | subst eo11 | (injection eo11 with f1_ f2_ f3_; have f4_ := f1_.symm; have f5_ := f3_.symm; clear f1_ f2_ f3_; subst f4_; subst f5_))
       refine hK.out _ _ ⟨(ZC HB.out hw163_0 :), (ZC HB.out hw163_1 :), (ZC HB.out hw163_2 :), (ZC HB.out hw163_3 :), (ZC HB.out hw163_4 :), (ZC HB.out hw163_5 :), (ZC HB.out hw164_0 :), (ZC HB.out hw164_1 :), (ZC HB.out hw164_2 :), (ZC HB.out hw164_3 :), (ZC HB.out hw164_4 :), (ZC HB.out hw164_5 :), (ZC HB.out hw165_0 :), (ZC HB.out hw165_1 :), (ZC HB.out hw165_2 :), (ZC HB.out hw165_3 :), (ZC HB.out hw165_4 :), (ZC HB.out hw165_5 :)⟩ (fun hHeld => ?_)
       clear hK K
       refine norm_ (a' := ?_) ?_ ?_
       rotate_left
       ·show Act.put _ (some 30) _ = _
        simp only [Act.put, List.setIfInBounds_toArray, List.set_cons_zero, List.set_cons_succ, i64_w, i32_w]
        rfl
       refine pure_ (i := 16) (N := some 31) (v := ?_) (a' := ?_) #[T,T,T,T,T,T,T,T,T,T,T,T,T,T,T,T,T,F,F] rfl rfl ZA ZF (Or.inl ⟨by rfl, ?_⟩) ?_ ?_
       rotate_left
       ·exact Z36
       rotate_left
       ·exact Z8
       refine one_ (i := 17) (N := some 7) #[T,T,T,T,T,T,T,T,T,T,T,T,T,T,T,T,T,T,F] rfl rfl (one_of HT_.out (by kernel_rfl)) (by decide) (fun K hK => ?_)
       refine box_step ?hg (N := 7) ?hd (cs := #[.int .i64 0, .int .i64 0, .slice none 0 0, .int .i64 0, .slice none 0 0, .int .i64 0]) (t := 122) ?hr ?_; (case hd => rfl); (case hg => rfl); (case hr => exact Z11)
       intro gb174 hg w12 hbox hb
       have n0_ := A_ (Kd.S_below (Kd.S_elderB (Z9 HO_5.out) gb174 (Nat.le_of_eq hg.symm)) hb)
       have n1_ := A_ (Kd.R_below (Z10 HO168.out) hb)
       have n2_ := A_ (Kd.R_below (Z10 HO172.out) hb)
       have n3_ := A_ (below_step Z0 hb)
       have n4_ := A_ (hbox)
       have n5_ := A_ ((by rw [hg]; exact (below_size Z0) : w.heap.size ≤ gb174))
       have n6_ := A_ ((by rw [hg]; exact (below_size Z0) : w.heap.size ≤ gb174))
       clear HO_5
       clear HO168
       clear HO172
       clear HB
       have HO_5 := n0_
       have HO168 := n1_
       have HO172 := n2_
       have HB := n3_
       have BK174 := n4_
       have GW174 := n5_
       have GE174 := n6_
       clear n0_ n1_ n2_ n3_ n4_ n5_ n6_
       clear hb hbox hg
       refine hK.out _ _ ⟨(ZC HB.out hw163_0 :), (ZC HB.out hw163_1 :), (ZC HB.out hw163_2 :), (ZC HB.out hw163_3 :), (ZC HB.out hw163_4 :), (ZC HB.out hw163_5 :), (ZC HB.out hw164_0 :), (ZC HB.out hw164_1 :), (ZC HB.out hw164_2 :), (ZC HB.out hw164_3 :), (ZC HB.out hw164_4 :), (ZC HB.out hw164_5 :), (ZC HB.out hw165_0 :), (ZC HB.out hw165_1 :), (ZC HB.out hw165_2 :), (ZC HB.out hw165_3 :), (ZC HB.out hw165_4 :), (ZC HB.out hw165_5 :)⟩ (fun hHeld => ?_)
       clear hK K
       refine norm_ (a' := ?_) ?_ ?_
       rotate_left
       ·show Act.put _ (some 7) _ = _
        simp only [Act.put, List.setIfInBounds_toArray, List.set_cons_zero, List.set_cons_succ, i64_w, i32_w]
        rfl
       exact norm_ (by simp only [putAll, Act.put, List.setIfInBounds_toArray, List.set_cons_zero, List.set_cons_succ]) (hCont (.slice Ao11 t166.length co11, .slice Ao10 t170.length co10, gb174) _ ⟨hHeld, (Z10 HO168.out), (Z10 HO172.out), (by (with_reducible repeat (first | apply Kd.S_alloc | apply Kd.S_drewN | apply Kd.S_drew)); exact Kd.S_mono HO_5.out (fun _ hk => ⟨hk.1.1.2, ⟨hk.1.2, hk.2⟩⟩)), (Z2 BK174.out), GW174.out, GE174.out, (Z1 GE174.out)⟩)
      ·skip
       refine box_step ?hg (N := 7) ?hd (cs := #[.int .i64 0, .int .i64 0, .slice none 0 0, .int .i64 0, .slice none 0 0, .int .i64 0]) (t := 122) ?hr ?_; (case hd => rfl); (case hg => rfl); (case hr => exact Z11)
       intro gb174 hg w9 hbox hb
       have n0_ := A_ (Kd.S_below (Kd.S_elderB (Z9 HO_5.out) gb174 (Nat.le_of_eq hg.symm)) hb)
       have n1_ := A_ (below_step Z0 hb)
       have n2_ := A_ (hbox)
       have n3_ := A_ ((by rw [hg]; exact (below_size Z0) : w.heap.size ≤ gb174))
       have n4_ := A_ ((by rw [hg]; exact (below_size Z0) : w.heap.size ≤ gb174))
       clear HO_5
       clear HB
       have HO_5 := n0_
       have HB := n1_
       have BK174 := n2_
       have GW174 := n3_
       have GE174 := n4_
       clear n0_ n1_ n2_ n3_ n4_
       clear hb hbox hg
       refine hK.out _ _ ⟨(ZC HB.out hw163_0 :), (ZC HB.out hw163_1 :), (ZC HB.out hw163_2 :), (ZC HB.out hw163_3 :), (ZC HB.out hw163_4 :), (ZC HB.out hw163_5 :), (ZC HB.out hw164_0 :), (ZC HB.out hw164_1 :), (ZC HB.out hw164_2 :), (ZC HB.out hw164_3 :), (ZC HB.out hw164_4 :), (ZC HB.out hw164_5 :), (ZC HB.out hw165_0 :), (ZC HB.out hw165_1 :), (ZC HB.out hw165_2 :), (ZC HB.out hw165_3 :), (ZC HB.out hw165_4 :), (ZC HB.out hw165_5 :)⟩ (fun hHeld => ?_)
       clear hK K
       refine norm_ (a' := ?_) ?_ ?_
       rotate_left
       ·show Act.put _ (some 7) _ = _
        simp only [Act.put, List.setIfInBounds_toArray, List.set_cons_zero, List.set_cons_succ, i64_w, i32_w]
        rfl
       refine one_ (i := 15) (N := some 30) #[T,T,T,T,T,T,T,T,T,T,T,T,T,T,T,T,F,T,F] rfl rfl (one_of HT_.out (by kernel_rfl)) (by decide) (fun K hK => ?_)
       refine goes_ Try.func97 (by kernel_rfl) rfl #[.agg #[.slice A163_2 ((rd_T122 l0 x6_1).f2.f0).length c163_2, .int .i64 ((rd_T122 l0 x6_1).f2.f1), .slice A163_4 ((rd_T122 l0 x6_1).f2.f2).length c163_4, .int .i64 ((rd_T122 l0 x6_1).f2.f3)]] (by rfl) rfl rfl Z3 ?_
       with_reducible refine (spec_copyUpdate.calls _ _ ((rd_T122 l0 x6_1).f2.f0) ((rd_T122 l0 x6_1).f2.f1) _ _ ((rd_T122 l0 x6_1).f2.f2) ((rd_T122 l0 x6_1).f2.f3) t166 t169 t170 t173 _ ?side1 ?side2 ?side3 ?side4 A7.out).mono ?_
       (case side1 => exact Z6 HR165_2.out)
       (case side2 => exact HC165_2.out)
       (case side3 => exact Z6 HR165_4.out)
       (case side4 => exact HC165_4.out)
       rintro e w10 ⟨v167, v171, rfl, ho0, ho1, hb⟩
       refine ⟨_, rfl, ?_⟩
       have n0_ := A_ (Kd.S_mono (Kd.S_told (Kd.S_told (Kd.S_old (Z9 HO_5.out) hb) (Kd.R_base ho0)) (Kd.R_base ho1)) (fun _ h_ => h_.1))
       have n1_ := A_ (Kd.R_lower ho0 (below_size (Z1 GE174.out)))
       have n2_ := A_ (Kd.R_lower ho1 (below_size (Z1 GE174.out)))
       have n3_ := A_ (blk_below (g := gb174) (o := .cells #[.int .i64 0, .int .i64 0, .slice none 0 0, .int .i64 0, .slice none 0 0, .int .i64 0] 122 (0, 0)) (Z2 BK174.out) hb)
       have n4_ := A_ (below_step (Z1 GE174.out) hb)
       clear HO_5
       clear BK174
       clear HB
       have HO_5 := n0_
       have HO168 := n1_
       have HO172 := n2_
       have BK174 := n3_
       have HB := n4_
       clear n0_ n1_ n2_ n3_ n4_
       (try clear hb)
       (try clear hb2)
       (try clear hk)
       (try clear hi)
       (try clear ho0)
       (try clear ho1)
       obtain ⟨Ao11, co11, eo11⟩ := Kd.R_slice HO172.out
       (first | subst eo11 | (injection eo11 with f1_ f2_ f3_; have f4_ := f1_.symm; have f5_ := f3_.symm; clear f1_ f2_ f3_; subst f4_; subst f5_))
       obtain ⟨Ao12, co12, eo12⟩ := Kd.R_slice HO168.out
       (first | subst eo12 | (injection eo12 with f1_ f2_ f3_; have f4_ := f1_.symm; have f5_ := f3_.symm; clear f1_ f2_ f3_; subst f4_; subst f5_))
       refine hK.out _ _ ⟨(ZC HB.out hw163_0 :), (ZC HB.out hw163_1 :), (ZC HB.out hw163_2 :), (ZC HB.out hw163_3 :), (ZC HB.out hw163_4 :), (ZC HB.out hw163_5 :), (ZC HB.out hw164_0 :), (ZC HB.out hw164_1 :), (ZC HB.out hw164_2 :), (ZC HB.out hw164_3 :), (ZC HB.out hw164_4 :), (ZC HB.out hw164_5 :), (ZC HB.out hw165_0 :), (ZC HB.out hw165_1 :), (ZC HB.out hw165_2 :), (ZC HB.out hw165_3 :), (ZC HB.out hw165_4 :), (ZC HB.out hw165_5 :)⟩ (fun hHeld => ?_)
       clear hK K
       refine norm_ (a' := ?_) ?_ ?_
       rotate_left
       ·show Act.put _ (some 30) _ = _
        simp only [Act.put, List.setIfInBounds_toArray, List.set_cons_zero, List.set_cons_succ, i64_w, i32_w]
        rfl
       refine pure_ (i := 16) (N := some 31) (v := ?_) (a' := ?_) #[T,T,T,T,T,T,T,T,T,T,T,T,T,T,T,T,T,T,F] rfl rfl ZA ZF (Or.inl ⟨by rfl, ?_⟩) ?_ ?_
       rotate_left
       ·exact Z36
       rotate_left
       ·exact Z8
       exact norm_ (by simp only [putAll, Act.put, List.setIfInBounds_toArray, List.set_cons_zero, List.set_cons_succ]) (hCont (.slice Ao12 t166.length co12, .slice Ao11 t170.length co11, gb174) _ ⟨hHeld, (Z10 HO168.out), (Z10 HO172.out), (by (with_reducible repeat (first | apply Kd.S_alloc | apply Kd.S_drewN | apply Kd.S_drew)); exact Kd.S_mono HO_5.out (fun _ hk => ⟨hk.1.2, ⟨hk.2, hk.1.1.2⟩⟩)), (Z2 BK174.out), GW174.out, GE174.out, (Z1 GE174.out)⟩)
     rintro ⟨v167, v171, gb174⟩ w13 ⟨hS_, h0_, h1_, h2_, h3_, h4_, h5_, h6_⟩
     have n0_ : Aside0 (Kd.R k92 92 w13 w.heap.size (fun _ => True) v167 t166) := ⟨h0_⟩
     have n1_ : Aside0 (Kd.R k137 137 w13 w.heap.size (fun _ => True) v171 t170) := ⟨h1_⟩
     have n2_ : Aside0 (Kd.S k122 122 w13 w.heap.size (fun k_ => some k_ ≠ (v167 : Value).ownBlock ∧ some k_ ≠ (v171 : Value).ownBlock ∧ k_ ≠ gb174) u5 x5_1) := ⟨h2_⟩
     have n3_ : Aside0 (w13.heap[gb174]? = some (.cells #[.int .i64 0, .int .i64 0, .slice none 0 0, .int .i64 0, .slice none 0 0, .int .i64 0] 122 (0, 0))) := ⟨h3_⟩
     have n4_ : Aside0 (w.heap.size ≤ gb174) := ⟨h4_⟩
     have n5_ : Aside0 (w.heap.size ≤ gb174) := ⟨h5_⟩
     have n6_ : Aside0 (Below w.heap.size w w13) := ⟨h6_⟩
     clear HO_5
     clear HB
     clear h0_ h1_ h2_ h3_ h4_ h5_ h6_
     have HO168 := n0_
     have HO172 := n1_
     have HO_5 := n2_
     have BK174 := n3_
     have GW174 := n4_
     have GE174 := n5_
     have HB := n6_
     clear n0_ n1_ n2_ n3_ n4_ n5_ n6_
     have hHeld : w13.cell? (ad163.add ((x6_1).toNat * 6)) = some (.int .i64 ((rd_T122 l0 x6_1).f0)) ∧ w13.cell? ⟨(ad163.add ((x6_1).toNat * 6)).block, (ad163.add ((x6_1).toNat * 6)).off + 1, none⟩ = some (.int .i64 ((rd_T122 l0 x6_1).f1)) ∧ w13.cell? ⟨(ad163.add ((x6_1).toNat * 6)).block, (ad163.add ((x6_1).toNat * 6)).off + 2, none⟩ = some (.slice A163_2 ((rd_T122 l0 x6_1).f2.f0).length c163_2) ∧ w13.cell? ⟨(ad163.add ((x6_1).toNat * 6)).block, (ad163.add ((x6_1).toNat * 6)).off + 3, none⟩ = some (.int .i64 ((rd_T122 l0 x6_1).f2.f1)) ∧ w13.cell? ⟨(ad163.add ((x6_1).toNat * 6)).block, (ad163.add ((x6_1).toNat * 6)).off + 4, none⟩ = some (.slice A163_4 ((rd_T122 l0 x6_1).f2.f2).length c163_4) ∧ w13.cell? ⟨(ad163.add ((x6_1).toNat * 6)).block, (ad163.add ((x6_1).toNat * 6)).off + 5, none⟩ = some (.int .i64 ((rd_T122 l0 x6_1).f2.f3)) ∧ w13.cell? (ad163.add ((x6_1).toNat * 6)) = some (.int .i64 ((rd_T122 l0 x6_1).f0)) ∧ w13.cell? ⟨(ad163.add ((x6_1).toNat * 6)).block, (ad163.add ((x6_1).toNat * 6)).off + 1, none⟩ = some (.int .i64 ((rd_T122 l0 x6_1).f1)) ∧ w13.cell? ⟨(ad163.add ((x6_1).toNat * 6)).block, (ad163.add ((x6_1).toNat * 6)).off + 2, none⟩ = some (.slice A163_2 ((rd_T122 l0 x6_1).f2.f0).length c163_2) ∧ w13.cell? ⟨(ad163.add ((x6_1).toNat * 6)).block, (ad163.add ((x6_1).toNat * 6)).off + 3, none⟩ = some (.int .i64 ((rd_T122 l0 x6_1).f2.f1)) ∧ w13.cell? ⟨(ad163.add ((x6_1).toNat * 6)).block, (ad163.add ((x6_1).toNat * 6)).off + 4, none⟩ = some (.slice A163_4 ((rd_T122 l0 x6_1).f2.f2).length c163_4) ∧ w13.cell? ⟨(ad163.add ((x6_1).toNat * 6)).block, (ad163.add ((x6_1).toNat * 6)).off + 5, none⟩ = some (.int .i64 ((rd_T122 l0 x6_1).f2.f3)) ∧ w13.cell? (ad163.add ((x6_1).toNat * 6)) = some (.int .i64 ((rd_T122 l0 x6_1).f0)) ∧ w13.cell? ⟨(ad163.add ((x6_1).toNat * 6)).block, (ad163.add ((x6_1).toNat * 6)).off + 1, none⟩ = some (.int .i64 ((rd_T122 l0 x6_1).f1)) ∧ w13.cell? ⟨(ad163.add ((x6_1).toNat * 6)).block, (ad163.add ((x6_1).toNat * 6)).off + 2, none⟩ = some (.slice A163_2 ((rd_T122 l0 x6_1).f2.f0).length c163_2) ∧ w13.cell? ⟨(ad163.add ((x6_1).toNat * 6)).block, (ad163.add ((x6_1).toNat * 6)).off + 3, none⟩ = some (.int .i64 ((rd_T122 l0 x6_1).f2.f1)) ∧ w13.cell? ⟨(ad163.add ((x6_1).toNat * 6)).block, (ad163.add ((x6_1).toNat * 6)).off + 4, none⟩ = some (.slice A163_4 ((rd_T122 l0 x6_1).f2.f2).length c163_4) ∧ w13.cell? ⟨(ad163.add ((x6_1).toNat * 6)).block, (ad163.add ((x6_1).toNat * 6)).off + 5, none⟩ = some (.int .i64 ((rd_T122 l0 x6_1).f2.f3)) := hS_
     obtain ⟨Ao14, co14, eo14⟩ := Kd.R_slice HO172.out
     (first | subst eo14 | (injection eo14 with f1_ f2_ f3_; have f4_ := f1_.symm; have f5_ := f3_.symm; clear f1_ f2_ f3_; subst f4_; subst f5_))
     obtain ⟨Ao15, co15, eo15⟩ := Kd.R_slice HO168.out
     (first | subst eo15 | (injection eo15 with f1_ f2_ f3_; have f4_ := f1_.symm; have f5_ := f3_.symm; clear f1_ f2_ f3_; subst f4_; subst f5_))
     refine norm_ (a' := ?_) ?_ ?_
     rotate_left
     ·simp only [putAll, Act.put, List.setIfInBounds_toArray, List.set_cons_zero, List.set_cons_succ]
      rfl
     refine one_ (i := 18) (N := none) #[T,T,T,T,T,T,T,T,T,T,T,T,T,T,T,T,T,T,T] rfl rfl (one_of HT_.out (by kernel_rfl)) (by decide) (fun K hK => ?_)
     have hs16 : w13.cell? ⟨gb174, 0, none⟩ = some (.int .i64 0) := (blk_cell BK174.out 0).trans rfl
     have hfs16 := blk_frozen BK174.out 0
     have hs17 : w13.cell? ⟨gb174, 1, none⟩ = some (.int .i64 0) := (blk_cell BK174.out 1).trans rfl
     have hfs17 := blk_frozen BK174.out 1
     have hs18 : w13.cell? ⟨gb174, 2, none⟩ = some (.slice none 0 0) := (blk_cell BK174.out 2).trans rfl
     have hfs18 := blk_frozen BK174.out 2
     have hs19 : w13.cell? ⟨gb174, 3, none⟩ = some (.int .i64 0) := (blk_cell BK174.out 3).trans rfl
     have hfs19 := blk_frozen BK174.out 3
     have hs20 : w13.cell? ⟨gb174, 4, none⟩ = some (.slice none 0 0) := (blk_cell BK174.out 4).trans rfl
     have hfs20 := blk_frozen BK174.out 4
     have hs21 : w13.cell? ⟨gb174, 5, none⟩ = some (.int .i64 0) := (blk_cell BK174.out 5).trans rfl
     have hfs21 := blk_frozen BK174.out 5
     refine skip_ (w1 := ?_) (by rfl) rfl ?_ ?_
     rotate_left
     ·go_simp
      rfl
     refine hK.out _ _ ⟨((cell_far (p := ⟨gb174, _, none⟩) (Z32 GW174.out) _).trans (((cell_far (p := ⟨gb174, _, none⟩) (Z32 GW174.out) _).trans (((cell_far (p := ⟨gb174, _, none⟩) (Z32 GW174.out) _).trans (((cell_far (p := ⟨gb174, _, none⟩) (Z32 GW174.out) _).trans (((cell_far (p := ⟨gb174, _, none⟩) (Z32 GW174.out) _).trans (((cell_far (p := ⟨gb174, _, none⟩) (Z32 GW174.out) _).trans (hHeld.1)))))))))))), ((cell_far (p := ⟨gb174, _, none⟩) (Z31 GW174.out) _).trans (((cell_far (p := ⟨gb174, _, none⟩) (Z31 GW174.out) _).trans (((cell_far (p := ⟨gb174, _, none⟩) (Z31 GW174.out) _).trans (((cell_far (p := ⟨gb174, _, none⟩) (Z31 GW174.out) _).trans (((cell_far (p := ⟨gb174, _, none⟩) (Z31 GW174.out) _).trans (((cell_far (p := ⟨gb174, _, none⟩) (Z31 GW174.out) _).trans (hHeld.2.1)))))))))))), ((cell_far (p := ⟨gb174, _, none⟩) (Z30 GW174.out) _).trans (((cell_far (p := ⟨gb174, _, none⟩) (Z30 GW174.out) _).trans (((cell_far (p := ⟨gb174, _, none⟩) (Z30 GW174.out) _).trans (((cell_far (p := ⟨gb174, _, none⟩) (Z30 GW174.out) _).trans (((cell_far (p := ⟨gb174, _, none⟩) (Z30 GW174.out) _).trans (((cell_far (p := ⟨gb174, _, none⟩) (Z30 GW174.out) _).trans (hHeld.2.2.1)))))))))))), ((cell_far (p := ⟨gb174, _, none⟩) (Z29 GW174.out) _).trans (((cell_far (p := ⟨gb174, _, none⟩) (Z29 GW174.out) _).trans (((cell_far (p := ⟨gb174, _, none⟩) (Z29 GW174.out) _).trans (((cell_far (p := ⟨gb174, _, none⟩) (Z29 GW174.out) _).trans (((cell_far (p := ⟨gb174, _, none⟩) (Z29 GW174.out) _).trans (((cell_far (p := ⟨gb174, _, none⟩) (Z29 GW174.out) _).trans (hHeld.2.2.2.1)))))))))))), ((cell_far (p := ⟨gb174, _, none⟩) (Z28 GW174.out) _).trans (((cell_far (p := ⟨gb174, _, none⟩) (Z28 GW174.out) _).trans (((cell_far (p := ⟨gb174, _, none⟩) (Z28 GW174.out) _).trans (((cell_far (p := ⟨gb174, _, none⟩) (Z28 GW174.out) _).trans (((cell_far (p := ⟨gb174, _, none⟩) (Z28 GW174.out) _).trans (((cell_far (p := ⟨gb174, _, none⟩) (Z28 GW174.out) _).trans (hHeld.2.2.2.2.1)))))))))))), ((cell_far (p := ⟨gb174, _, none⟩) (Z27 GW174.out) _).trans (((cell_far (p := ⟨gb174, _, none⟩) (Z27 GW174.out) _).trans (((cell_far (p := ⟨gb174, _, none⟩) (Z27 GW174.out) _).trans (((cell_far (p := ⟨gb174, _, none⟩) (Z27 GW174.out) _).trans (((cell_far (p := ⟨gb174, _, none⟩) (Z27 GW174.out) _).trans (((cell_far (p := ⟨gb174, _, none⟩) (Z27 GW174.out) _).trans (hHeld.2.2.2.2.2.1)))))))))))), ((cell_far (p := ⟨gb174, _, none⟩) (Z26 GW174.out) _).trans (((cell_far (p := ⟨gb174, _, none⟩) (Z26 GW174.out) _).trans (((cell_far (p := ⟨gb174, _, none⟩) (Z26 GW174.out) _).trans (((cell_far (p := ⟨gb174, _, none⟩) (Z26 GW174.out) _).trans (((cell_far (p := ⟨gb174, _, none⟩) (Z26 GW174.out) _).trans (((cell_far (p := ⟨gb174, _, none⟩) (Z26 GW174.out) _).trans (hHeld.2.2.2.2.2.2.1)))))))))))), ((cell_far (p := ⟨gb174, _, none⟩) (Z25 GW174.out) _).trans (((cell_far (p := ⟨gb174, _, none⟩) (Z25 GW174.out) _).trans (((cell_far (p := ⟨gb174, _, none⟩) (Z25 GW174.out) _).trans (((cell_far (p := ⟨gb174, _, none⟩) (Z25 GW174.out) _).trans (((cell_far (p := ⟨gb174, _, none⟩) (Z25 GW174.out) _).trans (((cell_far (p := ⟨gb174, _, none⟩) (Z25 GW174.out) _).trans (hHeld.2.2.2.2.2.2.2.1)))))))))))), ((cell_far (p := ⟨gb174, _, none⟩) (Z24 GW174.out) _).trans (((cell_far (p := ⟨gb174, _, none⟩) (Z24 GW174.out) _).trans (((cell_far (p := ⟨gb174, _, none⟩) (Z24 GW174.out) _).trans (((cell_far (p := ⟨gb174, _, none⟩) (Z24 GW174.out) _).trans (((cell_far (p := ⟨gb174, _, none⟩) (Z24 GW174.out) _).trans (((cell_far (p := ⟨gb174, _, none⟩) (Z24 GW174.out) _).trans (hHeld.2.2.2.2.2.2.2.2.1)))))))))))), ((cell_far (p := ⟨gb174, _, none⟩) (Z23 GW174.out) _).trans (((cell_far (p := ⟨gb174, _, none⟩) (Z23 GW174.out) _).trans (((cell_far (p := ⟨gb174, _, none⟩) (Z23 GW174.out) _).trans (((cell_far (p := ⟨gb174, _, none⟩) (Z23 GW174.out) _).trans (((cell_far (p := ⟨gb174, _, none⟩) (Z23 GW174.out) _).trans (((cell_far (p := ⟨gb174, _, none⟩) (Z23 GW174.out) _).trans (hHeld.2.2.2.2.2.2.2.2.2.1)))))))))))), ((cell_far (p := ⟨gb174, _, none⟩) (Z22 GW174.out) _).trans (((cell_far (p := ⟨gb174, _, none⟩) (Z22 GW174.out) _).trans (((cell_far (p := ⟨gb174, _, none⟩) (Z22 GW174.out) _).trans (((cell_far (p := ⟨gb174, _, none⟩) (Z22 GW174.out) _).trans (((cell_far (p := ⟨gb174, _, none⟩) (Z22 GW174.out) _).trans (((cell_far (p := ⟨gb174, _, none⟩) (Z22 GW174.out) _).trans (hHeld.2.2.2.2.2.2.2.2.2.2.1)))))))))))), ((cell_far (p := ⟨gb174, _, none⟩) (Z21 GW174.out) _).trans (((cell_far (p := ⟨gb174, _, none⟩) (Z21 GW174.out) _).trans (((cell_far (p := ⟨gb174, _, none⟩) (Z21 GW174.out) _).trans (((cell_far (p := ⟨gb174, _, none⟩) (Z21 GW174.out) _).trans (((cell_far (p := ⟨gb174, _, none⟩) (Z21 GW174.out) _).trans (((cell_far (p := ⟨gb174, _, none⟩) (Z21 GW174.out) _).trans (hHeld.2.2.2.2.2.2.2.2.2.2.2.1)))))))))))), ((cell_far (p := ⟨gb174, _, none⟩) (Z20 GW174.out) _).trans (((cell_far (p := ⟨gb174, _, none⟩) (Z20 GW174.out) _).trans (((cell_far (p := ⟨gb174, _, none⟩) (Z20 GW174.out) _).trans (((cell_far (p := ⟨gb174, _, none⟩) (Z20 GW174.out) _).trans (((cell_far (p := ⟨gb174, _, none⟩) (Z20 GW174.out) _).trans (((cell_far (p := ⟨gb174, _, none⟩) (Z20 GW174.out) _).trans (hHeld.2.2.2.2.2.2.2.2.2.2.2.2.1)))))))))))), ((cell_far (p := ⟨gb174, _, none⟩) (Z19 GW174.out) _).trans (((cell_far (p := ⟨gb174, _, none⟩) (Z19 GW174.out) _).trans (((cell_far (p := ⟨gb174, _, none⟩) (Z19 GW174.out) _).trans (((cell_far (p := ⟨gb174, _, none⟩) (Z19 GW174.out) _).trans (((cell_far (p := ⟨gb174, _, none⟩) (Z19 GW174.out) _).trans (((cell_far (p := ⟨gb174, _, none⟩) (Z19 GW174.out) _).trans (hHeld.2.2.2.2.2.2.2.2.2.2.2.2.2.1)))))))))))), ((cell_far (p := ⟨gb174, _, none⟩) (Z18 GW174.out) _).trans (((cell_far (p := ⟨gb174, _, none⟩) (Z18 GW174.out) _).trans (((cell_far (p := ⟨gb174, _, none⟩) (Z18 GW174.out) _).trans (((cell_far (p := ⟨gb174, _, none⟩) (Z18 GW174.out) _).trans (((cell_far (p := ⟨gb174, _, none⟩) (Z18 GW174.out) _).trans (((cell_far (p := ⟨gb174, _, none⟩) (Z18 GW174.out) _).trans (hHeld.2.2.2.2.2.2.2.2.2.2.2.2.2.2.1)))))))))))), ((cell_far (p := ⟨gb174, _, none⟩) (Z17 GW174.out) _).trans (((cell_far (p := ⟨gb174, _, none⟩) (Z17 GW174.out) _).trans (((cell_far (p := ⟨gb174, _, none⟩) (Z17 GW174.out) _).trans (((cell_far (p := ⟨gb174, _, none⟩) (Z17 GW174.out) _).trans (((cell_far (p := ⟨gb174, _, none⟩) (Z17 GW174.out) _).trans (((cell_far (p := ⟨gb174, _, none⟩) (Z17 GW174.out) _).trans (hHeld.2.2.2.2.2.2.2.2.2.2.2.2.2.2.2.1)))))))))))), ((cell_far (p := ⟨gb174, _, none⟩) (Z16 GW174.out) _).trans (((cell_far (p := ⟨gb174, _, none⟩) (Z16 GW174.out) _).trans (((cell_far (p := ⟨gb174, _, none⟩) (Z16 GW174.out) _).trans (((cell_far (p := ⟨gb174, _, none⟩) (Z16 GW174.out) _).trans (((cell_far (p := ⟨gb174, _, none⟩) (Z16 GW174.out) _).trans (((cell_far (p := ⟨gb174, _, none⟩) (Z16 GW174.out) _).trans (hHeld.2.2.2.2.2.2.2.2.2.2.2.2.2.2.2.2.1)))))))))))), ((cell_far (p := ⟨gb174, _, none⟩) (Z15 GW174.out) _).trans (((cell_far (p := ⟨gb174, _, none⟩) (Z15 GW174.out) _).trans (((cell_far (p := ⟨gb174, _, none⟩) (Z15 GW174.out) _).trans (((cell_far (p := ⟨gb174, _, none⟩) (Z15 GW174.out) _).trans (((cell_far (p := ⟨gb174, _, none⟩) (Z15 GW174.out) _).trans (((cell_far (p := ⟨gb174, _, none⟩) (Z15 GW174.out) _).trans (hHeld.2.2.2.2.2.2.2.2.2.2.2.2.2.2.2.2.2))))))))))))⟩ (fun hHeld => ?_)
     clear hK K
     refine done_ (done_of HT_.out (by kernel_rfl)) ?_
     try go_wp2
     go_loopg [5] k1 (fun kq v5 w' => ∃ (x5_2 : List (S122)) (x175001_2 : Int), Aside0 (spec_cutTurns.l1 kq l0 a1 x5_2 x6_1 ((rd_T122 l0 x6_1).f0) x175001_2 t166 t169 t170 t173 = some r) ∧ Aside0 (kq ≤ k1) ∧ Aside0 (Kd.S k122 122 w' w.heap.size (fun k_ => some k_ ≠ ((.slice Ao15 t166.length co15) : Value).ownBlock ∧ some k_ ≠ ((.slice Ao14 t170.length co14) : Value).ownBlock ∧ k_ ≠ gb174) v5 x5_2) ∧ Aside0 (Kd.R k92 92 w' w.heap.size (fun _ => True) (.slice Ao15 t166.length co15) t166) ∧ Aside0 (Kd.R k137 137 w' w.heap.size (fun _ => True) (.slice Ao14 t170.length co14) t170) ∧ Aside0 (w'.heap[gb174]? = some (.cells #[.int .i64 ((rd_T122 l0 x6_1).f0), .int .i64 x175001_2, (.slice Ao15 t166.length co15), .int .i64 t169, (.slice Ao14 t170.length co14), .int .i64 t173] 122 (0, 0))) ∧ Aside0 (Below w.heap.size w w'))
     case atStart => exact ⟨(x5_1), ((rd_T122 l0 x6_1).f1), H', ⟨Nat.le_refl _⟩, ⟨by (with_reducible repeat (first | apply Kd.S_alloc | apply Kd.S_drewN | apply Kd.S_drew)); exact Kd.S_mono (Kd.S_far (p := ⟨gb174, 5, none⟩) (Kd.S_far (p := ⟨gb174, 4, none⟩) (Kd.S_far (p := ⟨gb174, 3, none⟩) (Kd.S_far (p := ⟨gb174, 2, none⟩) (Kd.S_far (p := ⟨gb174, 1, none⟩) (Kd.S_far (p := ⟨gb174, 0, none⟩) (Kd.S_mono HO_5.out (fun k_ hk => (⟨hk, hk.2.2⟩ : _ ∧ k_ ≠ gb174))) (fun _ hk => hk.2) (.int .i64 ((rd_T122 l0 x6_1).f0))) (fun _ hk => hk.2) (.int .i64 ((rd_T122 l0 x6_1).f1))) (fun _ hk => hk.2) (.slice Ao15 t166.length co15)) (fun _ hk => hk.2) (.int .i64 t169)) (fun _ hk => hk.2) (.slice Ao14 t170.length co14)) (fun _ hk => hk.2) (.int .i64 t173)) (fun _ hk => ⟨hk.1.1, ⟨hk.1.2.1, hk.1.2.2⟩⟩)⟩, ⟨by (with_reducible repeat (first | apply Kd.R_alloc | apply Kd.R_drewN | apply Kd.R_drew)); exact Kd.R_mono (Kd.R_far (p := ⟨gb174, 5, none⟩) (Kd.R_far (p := ⟨gb174, 4, none⟩) (Kd.R_far (p := ⟨gb174, 3, none⟩) (Kd.R_far (p := ⟨gb174, 2, none⟩) (Kd.R_far (p := ⟨gb174, 1, none⟩) (Kd.R_far (p := ⟨gb174, 0, none⟩) (Kd.R_types HO168.out BK174.out (by decide)) (fun _ hk => hk.2) (.int .i64 ((rd_T122 l0 x6_1).f0))) (fun _ hk => hk.2) (.int .i64 ((rd_T122 l0 x6_1).f1))) (fun _ hk => hk.2) (.slice Ao15 t166.length co15)) (fun _ hk => hk.2) (.int .i64 t169)) (fun _ hk => hk.2) (.slice Ao14 t170.length co14)) (fun _ hk => hk.2) (.int .i64 t173)) (fun _ hk => trivial)⟩, ⟨by (with_reducible repeat (first | apply Kd.R_alloc | apply Kd.R_drewN | apply Kd.R_drew)); exact Kd.R_mono (Kd.R_far (p := ⟨gb174, 5, none⟩) (Kd.R_far (p := ⟨gb174, 4, none⟩) (Kd.R_far (p := ⟨gb174, 3, none⟩) (Kd.R_far (p := ⟨gb174, 2, none⟩) (Kd.R_far (p := ⟨gb174, 1, none⟩) (Kd.R_far (p := ⟨gb174, 0, none⟩) (Kd.R_types HO172.out BK174.out (by decide)) (fun _ hk => hk.2) (.int .i64 ((rd_T122 l0 x6_1).f0))) (fun _ hk => hk.2) (.int .i64 ((rd_T122 l0 x6_1).f1))) (fun _ hk => hk.2) (.slice Ao15 t166.length co15)) (fun _ hk => hk.2) (.int .i64 t169)) (fun _ hk => hk.2) (.slice Ao14 t170.length co14)) (fun _ hk => hk.2) (.int .i64 t173)) (fun _ hk => trivial)⟩, ⟨by (with_reducible repeat (first | refine blk_drewN ?_ _ | refine blk_drew ?_ | refine blk_alloc ?_ _)); refine blk_put (cs := #[.int .i64 ((rd_T122 l0 x6_1).f0), .int .i64 ((rd_T122 l0 x6_1).f1), .slice Ao15 t166.length co15, .int .i64 t169, .slice Ao14 t170.length co14, .int .i64 0]) ?_ 5 _ rfl; (with_reducible repeat (first | refine blk_drewN ?_ _ | refine blk_drew ?_ | refine blk_alloc ?_ _)); refine blk_put (cs := #[.int .i64 ((rd_T122 l0 x6_1).f0), .int .i64 ((rd_T122 l0 x6_1).f1), .slice Ao15 t166.length co15, .int .i64 t169, .slice none 0 0, .int .i64 0]) ?_ 4 _ rfl; (with_reducible repeat (first | refine blk_drewN ?_ _ | refine blk_drew ?_ | refine blk_alloc ?_ _)); refine blk_put (cs := #[.int .i64 ((rd_T122 l0 x6_1).f0), .int .i64 ((rd_T122 l0 x6_1).f1), .slice Ao15 t166.length co15, .int .i64 0, .slice none 0 0, .int .i64 0]) ?_ 3 _ rfl; (with_reducible repeat (first | refine blk_drewN ?_ _ | refine blk_drew ?_ | refine blk_alloc ?_ _)); refine blk_put (cs := #[.int .i64 ((rd_T122 l0 x6_1).f0), .int .i64 ((rd_T122 l0 x6_1).f1), .slice none 0 0, .int .i64 0, .slice none 0 0, .int .i64 0]) ?_ 2 _ rfl; (with_reducible repeat (first | refine blk_drewN ?_ _ | refine blk_drew ?_ | refine blk_alloc ?_ _)); refine blk_put (cs := #[.int .i64 ((rd_T122 l0 x6_1).f0), .int .i64 0, .slice none 0 0, .int .i64 0, .slice none 0 0, .int .i64 0]) ?_ 1 _ rfl; (with_reducible repeat (first | refine blk_drewN ?_ _ | refine blk_drew ?_ | refine blk_alloc ?_ _)); refine blk_put (cs := #[.int .i64 0, .int .i64 0, .slice none 0 0, .int .i64 0, .slice none 0 0, .int .i64 0]) ?_ 0 _ rfl; (with_reducible repeat (first | refine blk_drewN ?_ _ | refine blk_drew ?_ | refine blk_alloc ?_ _)); exact BK174.out⟩, ⟨Z1 GE174.out⟩⟩
     case round =>
      clear H'
      try clear c1
      try clear p1
      try clear q1
      try clear hx1
      try clear p2
      try clear c5
      try clear c5b0
      try clear c6
      try clear c6b0
      try clear c8
      try clear c9
      try clear c16
      try clear p16
      try clear q16
      try clear hx16
      try clear hx163_0
      try clear hx163_1
      try clear hx163_2
      try clear hx163_3
      try clear hx163_4
      try clear hx163_5
      try clear hx164_0
      try clear hx164_1
      try clear hx164_2
      try clear hx164_3
      try clear hx164_4
      try clear hx164_5
      try clear hx165_0
      try clear hx165_1
      try clear hx165_2
      try clear hx165_3
      try clear hx165_4
      try clear hx165_5
      try clear p163
      try clear p164
      try clear p165
      try clear p2
      try clear q163
      try clear q164
      try clear q165
      obtain ⟨x5_2, x175001_2, HA, HK2, HO_5, HO_175002, HO_175004, BK174, HB⟩ := hrel
      cases gk with
      | zero => exact absurd HA.out (by simp [spec_cutTurns.l1])
      | succ k2 =>
       have H := HA.out
       clear HA
       simp only [spec_cutTurns.l1] at H
       by_cases c22 : ((rd_T122 l0 x6_1).f0) = 1
       ·rw [if_pos c22] at H
        have c22b0 : (((rd_T122 l0 x6_1).f0) == 1) = true := beq_iff_eq.mpr c22
        have c22b1 : (((rd_T122 l0 x6_1).f0) != 1) = false := bne_eq_false_iff_eq.mpr c22
        clear c22
        by_cases c23 : x175001_2 > a1
        ·rw [if_pos c23] at H
         have c23b0 : decide (a1 < x175001_2) = true := decide_eq_true c23
         clear c23
         by_cases c24 : x5_2.length < 1759218604441
         ·rw [if_pos c24] at H
          have LMc24 := A_ c24
          clear c24
          obtain ⟨y175, hy175⟩ : ∃ y_ : List (S122), y_ = (x5_2 ++ [(⟨1, a1, (⟨([] : List (S92)), 0, ([] : List (S137)), 0⟩ : S120)⟩ : S122)]) := ⟨_, rfl⟩
          replace H : (spec_cutTurns.l1 k2 l0 a1 y175 x6_1 ((rd_T122 l0 x6_1).f0) (wrap64 (x175001_2 - a1)) t166 t169 t170 t173) = some r := by first | (rw [hy175]; with_reducible exact H) | (have H2_ := (Option.bind_some _ _).symm.trans H; rw [hy175]; with_reducible exact H2_) | (have H2_ := (Option.bind_some _ _).symm.trans H; with_reducible exact H2_) | with_reducible exact H | (rw [hy175]; exact H) | exact H
          have Ny175 := A_ hy175
          clear hy175
          have H' := A_ H
          clear H
          have hcz25_0 : wr.cell? ⟨gb174, 0, none⟩ = some (.int .i64 ((rd_T122 l0 x6_1).f0)) := (blk_cell BK174.out 0).trans rfl
          have hcz25_1 : wr.cell? ⟨gb174, 1, none⟩ = some (.int .i64 x175001_2) := (blk_cell BK174.out 1).trans rfl
          have hcz25_2 : wr.cell? ⟨gb174, 2, none⟩ = some (.slice Ao15 t166.length co15) := (blk_cell BK174.out 2).trans rfl
          have hcz25_3 : wr.cell? ⟨gb174, 3, none⟩ = some (.int .i64 t169) := (blk_cell BK174.out 3).trans rfl
          have hcz25_4 : wr.cell? ⟨gb174, 4, none⟩ = some (.slice Ao14 t170.length co14) := (blk_cell BK174.out 4).trans rfl
          have hcz25_5 : wr.cell? ⟨gb174, 5, none⟩ = some (.int .i64 t173) := (blk_cell BK174.out 5).trans rfl
          have hfz25_0 := blk_frozen BK174.out 0
          have hfz25_1 := blk_frozen BK174.out 1
          have hfz25_2 := blk_frozen BK174.out 2
          have hfz25_3 := blk_frozen BK174.out 3
          have hfz25_4 := blk_frozen BK174.out 4
          have hfz25_5 := blk_frozen BK174.out 5
          go_wp2_with (first | ((with_reducible refine gate_builtin (b := .append) (xs := #[.tmp 41, .tmp 44]) rfl ?_); at_builtin; refine Kd.S_append k122 (w0 := w) w.heap.size rfl (.tmp 41) (.tmp 44) 61 122 (.agg #[(.int .i64 0), (.int .i64 0), (.slice none 0 0), (.int .i64 0), (.slice none 0 0), (.int .i64 0)]) 80 rfl Try.underlying61 info122 rfl (by decide) (by omega) u5 x5_2 (⟨1, a1, (⟨([] : List (S92)), 0, ([] : List (S137)), 0⟩ : S120)⟩ : S122) [.int .i64 1, .int .i64 a1, .slice none 0 0, .int .i64 0, .slice none 0 0, .int .i64 0] (fun k_ => some k_ ≠ (.slice Ao15 t166.length co15 : Value).ownBlock ∧ some k_ ≠ (.slice Ao14 t170.length co14 : Value).ownBlock ∧ k_ ≠ gb174) (fun _ => False) rfl rfl ?aP (fun k_ hk_ => hk_.elim) ?aF ?aO ?aB ?aS ?aL ?_; (case aP => exact k122_mkM _ _ _ (⟨1, a1, (⟨([] : List (S92)), 0, ([] : List (S137)), 0⟩ : S120)⟩ : S122) (Kd.R_nil _ _ _ _ _) (Kd.R_nil _ _ _ _ _)); (case aB => exact (Z1 GE174.out)); (case aF => exact (fun k_ hk => ⟨Kd.fresh' (Kd.R_lt (Z10 HO_175002.out)) k_ hk, Kd.fresh' (Kd.R_lt (Z10 HO_175004.out)) k_ hk, Kd.freshB (g := gb174) (o := .cells #[.int .i64 ((rd_T122 l0 x6_1).f0), .int .i64 x175001_2, .slice Ao15 t166.length co15, .int .i64 t169, .slice Ao14 t170.length co14, .int .i64 t173] 122 (0, 0)) (Z2 BK174.out) k_ hk⟩)); (case aO => exact (by (with_reducible repeat (first | apply Kd.S_alloc | apply Kd.S_drewN | apply Kd.S_drew)); exact Kd.S_mono HO_5.out (fun k_ hk => ⟨⟨hk.1, ⟨hk.2.1, hk.2.2⟩⟩, fun e_ => e_⟩))); (case aS => exact (below_size (Z1 GE174.out))); (case aL => have := LMc24.out; omega); intro v176 w26 ho hb hg hat; rw [← Ny175.out] at ho; have n0_ := A_ (Kd.R_over' (Z10 HO_175002.out) (Kd.S_typed (Z9 HO_5.out)) (by decide) hg); have n1_ := A_ (Kd.R_over' (Z10 HO_175004.out) (Kd.S_typed (Z9 HO_5.out)) (by decide) hg); have n2_ := A_ (blk_grown (g := gb174) (o := .cells #[.int .i64 ((rd_T122 l0 x6_1).f0), .int .i64 x175001_2, .slice Ao15 t166.length co15, .int .i64 t169, .slice Ao14 t170.length co14, .int .i64 t173] 122 (0, 0)) (Z2 BK174.out) hg (Kd.S_away HO_5.out (fun _ hk => hk.2.2))); have n3_ := A_ (hb); have n4_ := A_ (ho); clear HO_175002; clear HO_175004; clear BK174; clear HB; clear HO_5; have HO_175002 := n0_; have HO_175004 := n1_; have BK174 := n2_; have HB := n3_; have HO177 := n4_; clear n0_ n1_ n2_ n3_ n4_; clear ho hb hg hat; have hcz27_0 : w26.cell? ⟨gb174, 0, none⟩ = some (.int .i64 ((rd_T122 l0 x6_1).f0)) := (blk_cell BK174.out 0).trans rfl; have hcz27_1 : w26.cell? ⟨gb174, 1, none⟩ = some (.int .i64 x175001_2) := (blk_cell BK174.out 1).trans rfl; have hcz27_2 : w26.cell? ⟨gb174, 2, none⟩ = some (.slice Ao15 t166.length co15) := (blk_cell BK174.out 2).trans rfl; have hcz27_3 : w26.cell? ⟨gb174, 3, none⟩ = some (.int .i64 t169) := (blk_cell BK174.out 3).trans rfl; have hcz27_4 : w26.cell? ⟨gb174, 4, none⟩ = some (.slice Ao14 t170.length co14) := (blk_cell BK174.out 4).trans rfl; have hcz27_5 : w26.cell? ⟨gb174, 5, none⟩ = some (.int .i64 t173) := (blk_cell BK174.out 5).trans rfl; have hfz27_0 := blk_frozen BK174.out 0; have hfz27_1 := blk_frozen BK174.out 1; have hfz27_2 := blk_frozen BK174.out 2; have hfz27_3 := blk_frozen BK174.out 3; have hfz27_4 := blk_frozen BK174.out 4; have hfz27_5 := blk_frozen BK174.out 5))
          go_roundg k2
          case measure => have := HK1.out; have := HK2.out; omega
          case rel => exact ⟨(y175), (wrap64 (x175001_2 - a1)), H', ⟨by have := HK1.out; have := HK2.out; omega⟩, ⟨by (with_reducible repeat (first | apply Kd.S_alloc | apply Kd.S_drewN | apply Kd.S_drew)); exact Kd.S_mono (Kd.S_far (p := ⟨gb174, 1, none⟩) (Kd.S_mono HO177.out (fun k_ hk => (⟨hk, hk.2.2⟩ : _ ∧ k_ ≠ gb174))) (fun _ hk => hk.2) (.int .i64 (wrap64 (x175001_2 - a1)))) (fun _ hk => ⟨hk.1.1, ⟨hk.1.2.1, hk.1.2.2⟩⟩)⟩, ⟨by (with_reducible repeat (first | apply Kd.R_alloc | apply Kd.R_drewN | apply Kd.R_drew)); exact Kd.R_mono (Kd.R_far (p := ⟨gb174, 1, none⟩) (Kd.R_types HO_175002.out BK174.out (by decide)) (fun _ hk => hk.2) (.int .i64 (wrap64 (x175001_2 - a1)))) (fun _ hk => trivial)⟩, ⟨by (with_reducible repeat (first | apply Kd.R_alloc | apply Kd.R_drewN | apply Kd.R_drew)); exact Kd.R_mono (Kd.R_far (p := ⟨gb174, 1, none⟩) (Kd.R_types HO_175004.out BK174.out (by decide)) (fun _ hk => hk.2) (.int .i64 (wrap64 (x175001_2 - a1)))) (fun _ hk => trivial)⟩, ⟨by (with_reducible repeat (first | refine blk_drewN ?_ _ | refine blk_drew ?_ | refine blk_alloc ?_ _)); refine blk_put (cs := #[.int .i64 ((rd_T122 l0 x6_1).f0), .int .i64 x175001_2, .slice Ao15 t166.length co15, .int .i64 t169, .slice Ao14 t170.length co14, .int .i64 t173]) ?_ 1 _ rfl; (with_reducible repeat (first | refine blk_drewN ?_ _ | refine blk_drew ?_ | refine blk_alloc ?_ _)); exact BK174.out⟩, ⟨Z1 GE174.out⟩⟩
         ·rw [if_neg c24] at H
          exact absurd H (by simp)
        ·rw [if_neg c23] at H
         have c23b0 : decide (a1 < x175001_2) = false := decide_eq_false c23
         clear c23
         by_cases c28 : x5_2.length < 1759218604441
         ·rw [if_pos c28] at H
          have LMc28 := A_ c28
          clear c28
          obtain ⟨y178, hy178⟩ : ∃ y_ : List (S122), y_ = (x5_2 ++ [(⟨((rd_T122 l0 x6_1).f0), x175001_2, (⟨t166, t169, t170, t173⟩ : S120)⟩ : S122)]) := ⟨_, rfl⟩
          replace H : (spec_cutTurns.l0 k2 l0 a1 y178 (wrap64 (x6_1 + 1))) = some r := by first | (rw [hy178]; with_reducible exact H) | (have H2_ := (Option.bind_some _ _).symm.trans H; rw [hy178]; with_reducible exact H2_) | (have H2_ := (Option.bind_some _ _).symm.trans H; with_reducible exact H2_) | with_reducible exact H | (rw [hy178]; exact H) | exact H
          have Ny178 := A_ hy178
          clear hy178
          have H' := A_ H
          clear H
          have hcz29_0 : wr.cell? ⟨gb174, 0, none⟩ = some (.int .i64 ((rd_T122 l0 x6_1).f0)) := (blk_cell BK174.out 0).trans rfl
          have hcz29_1 : wr.cell? ⟨gb174, 1, none⟩ = some (.int .i64 x175001_2) := (blk_cell BK174.out 1).trans rfl
          have hcz29_2 : wr.cell? ⟨gb174, 2, none⟩ = some (.slice Ao15 t166.length co15) := (blk_cell BK174.out 2).trans rfl
          have hcz29_3 : wr.cell? ⟨gb174, 3, none⟩ = some (.int .i64 t169) := (blk_cell BK174.out 3).trans rfl
          have hcz29_4 : wr.cell? ⟨gb174, 4, none⟩ = some (.slice Ao14 t170.length co14) := (blk_cell BK174.out 4).trans rfl
          have hcz29_5 : wr.cell? ⟨gb174, 5, none⟩ = some (.int .i64 t173) := (blk_cell BK174.out 5).trans rfl
          have hfz29_0 := blk_frozen BK174.out 0
          have hfz29_1 := blk_frozen BK174.out 1
          have hfz29_2 := blk_frozen BK174.out 2
          have hfz29_3 := blk_frozen BK174.out 3
          have hfz29_4 := blk_frozen BK174.out 4
          have hfz29_5 := blk_frozen BK174.out 5
          go_wp2_with (first | ((with_reducible refine gate_builtin (b := .append) (xs := #[.tmp 51, .tmp 53]) rfl ?_); at_builtin; refine Kd.S_append k122 (w0 := w) w.heap.size rfl (.tmp 51) (.tmp 53) 61 122 (.agg #[(.int .i64 0), (.int .i64 0), (.slice none 0 0), (.int .i64 0), (.slice none 0 0), (.int .i64 0)]) 80 rfl Try.underlying61 info122 rfl (by decide) (by omega) u5 x5_2 (⟨((rd_T122 l0 x6_1).f0), x175001_2, (⟨t166, t169, t170, t173⟩ : S120)⟩ : S122) [.int .i64 ((rd_T122 l0 x6_1).f0), .int .i64 x175001_2, .slice Ao15 t166.length co15, .int .i64 t169, .slice Ao14 t170.length co14, .int .i64 t173] (fun k_ => k_ ≠ gb174) (fun k_ => some k_ = (.slice Ao15 t166.length co15 : Value).ownBlock ∨ some k_ = (.slice Ao14 t170.length co14 : Value).ownBlock) rfl rfl ?aP (fun k_ hk_ => hk_.elim (fun h_ => ((Kd.R_mono (ok' := fun k_ => ((fun k_ => k_ ≠ gb174)) k_ ∧ some k_ ≠ (u5 : Value).ownBlock) (Kd.R_types (Kd.R_apart' (HO_175002.out) (Kd.S_typed HO_5.out) (by decide)) BK174.out (by decide)) (fun k_ hk => ⟨hk.2, hk.1.2⟩))).1 k_ h_.symm) (fun h_ => ((Kd.R_mono (ok' := fun k_ => ((fun k_ => k_ ≠ gb174)) k_ ∧ some k_ ≠ (u5 : Value).ownBlock) (Kd.R_types (Kd.R_apart' (HO_175004.out) (Kd.S_typed HO_5.out) (by decide)) BK174.out (by decide)) (fun k_ hk => ⟨hk.2, hk.1.2⟩))).1 k_ h_.symm)) ?aF ?aO ?aB ?aS ?aL ?_; (case aP => exact k122_mkM _ _ _ (⟨((rd_T122 l0 x6_1).f0), x175001_2, (⟨t166, t169, t170, t173⟩ : S120)⟩ : S122) (Kd.R_mono (Kd.R_tight rfl (Kd.R_mono (ok' := fun k_ => ((fun k_ => k_ ≠ gb174)) k_ ∧ some k_ ≠ (u5 : Value).ownBlock) (Kd.R_types (Kd.R_apart' (HO_175002.out) (Kd.S_typed HO_5.out) (by decide)) BK174.out (by decide)) (fun k_ hk => ⟨hk.2, hk.1.2⟩))) (fun _ h_ => Or.inl h_)) (Kd.R_mono (Kd.R_tight rfl (Kd.R_mono (ok' := fun k_ => ((fun k_ => k_ ≠ gb174)) k_ ∧ some k_ ≠ (u5 : Value).ownBlock) (Kd.R_types (Kd.R_apart' (HO_175004.out) (Kd.S_typed HO_5.out) (by decide)) BK174.out (by decide)) (fun k_ hk => ⟨hk.2, hk.1.2⟩))) (fun _ h_ => Or.inr (h_)))); (case aB => exact (Z1 GE174.out)); (case aF => exact (fun k_ hk => Kd.freshB (g := gb174) (o := .cells #[.int .i64 ((rd_T122 l0 x6_1).f0), .int .i64 x175001_2, .slice Ao15 t166.length co15, .int .i64 t169, .slice Ao14 t170.length co14, .int .i64 t173] 122 (0, 0)) (Z2 BK174.out) k_ hk)); (case aO => exact (by (with_reducible repeat (first | apply Kd.S_alloc | apply Kd.S_drewN | apply Kd.S_drew)); exact Kd.S_mono HO_5.out (fun k_ hk => ⟨hk.2.2, fun e_ => e_.elim (fun h_ => hk.1 h_) (fun h_ => hk.2.1 h_)⟩))); (case aS => exact (below_size (Z1 GE174.out))); (case aL => have := LMc28.out; omega); intro v179 w30 ho hb hg hat; rw [← Ny178.out] at ho; have n0_ := A_ (blk_grown (g := gb174) (o := .cells #[.int .i64 ((rd_T122 l0 x6_1).f0), .int .i64 x175001_2, .slice Ao15 t166.length co15, .int .i64 t169, .slice Ao14 t170.length co14, .int .i64 t173] 122 (0, 0)) (Z2 BK174.out) hg (Kd.S_away HO_5.out (fun _ hk => hk.2.2))); have n1_ := A_ (hb); have n2_ := A_ (ho); clear BK174; clear HB; clear HO_5; clear HO_175002; clear HO_175004; have BK174 := n0_; have HB := n1_; have HO180 := n2_; clear n0_ n1_ n2_; clear ho hb hg hat))
          go_roundg k2
          case measure => have := HK1.out; have := HK2.out; omega
          case rel => exact ⟨(y178), (wrap64 (x6_1 + 1)), Z12, H', ⟨by have := HK1.out; have := HK2.out; omega⟩, ⟨Z45 HO180.out⟩, ⟨Z1 GE174.out⟩⟩
         ·rw [if_neg c28] at H
          exact absurd H (by simp)
       ·rw [if_neg c22] at H
        have c22b0 : (((rd_T122 l0 x6_1).f0) == 1) = false := beq_eq_false_iff_ne.mpr c22
        have c22b1 : (((rd_T122 l0 x6_1).f0) != 1) = true := bne_iff_ne.mpr c22
        by_cases c31 : x5_2.length < 1759218604441
        ·rw [if_pos c31] at H
         have LMc31 := A_ c31
         clear c31
         obtain ⟨y181, hy181⟩ : ∃ y_ : List (S122), y_ = (x5_2 ++ [(⟨((rd_T122 l0 x6_1).f0), x175001_2, (⟨t166, t169, t170, t173⟩ : S120)⟩ : S122)]) := ⟨_, rfl⟩
         replace H : (spec_cutTurns.l0 k2 l0 a1 y181 (wrap64 (x6_1 + 1))) = some r := by first | (rw [hy181]; with_reducible exact H) | (have H2_ := (Option.bind_some _ _).symm.trans H; rw [hy181]; with_reducible exact H2_) | (have H2_ := (Option.bind_some _ _).symm.trans H; with_reducible exact H2_) | with_reducible exact H | (rw [hy181]; exact H) | exact H
         have Ny181 := A_ hy181
         clear hy181
         have H' := A_ H
         clear H
         have hcz32_0 : wr.cell? ⟨gb174, 0, none⟩ = some (.int .i64 ((rd_T122 l0 x6_1).f0)) := (blk_cell BK174.out 0).trans rfl
         have hcz32_1 : wr.cell? ⟨gb174, 1, none⟩ = some (.int .i64 x175001_2) := (blk_cell BK174.out 1).trans rfl
         have hcz32_2 : wr.cell? ⟨gb174, 2, none⟩ = some (.slice Ao15 t166.length co15) := (blk_cell BK174.out 2).trans rfl
         have hcz32_3 : wr.cell? ⟨gb174, 3, none⟩ = some (.int .i64 t169) := (blk_cell BK174.out 3).trans rfl
         have hcz32_4 : wr.cell? ⟨gb174, 4, none⟩ = some (.slice Ao14 t170.length co14) := (blk_cell BK174.out 4).trans rfl
         have hcz32_5 : wr.cell? ⟨gb174, 5, none⟩ = some (.int .i64 t173) := (blk_cell BK174.out 5).trans rfl
         have hfz32_0 := blk_frozen BK174.out 0
         have hfz32_1 := blk_frozen BK174.out 1
         have hfz32_2 := blk_frozen BK174.out 2
         have hfz32_3 := blk_frozen BK174.out 3
         have hfz32_4 := blk_frozen BK174.out 4
         have hfz32_5 := blk_frozen BK174.out 5
         go_wp2_with (first | ((with_reducible refine gate_builtin (b := .append) (xs := #[.tmp 51, .tmp 53]) rfl ?_); at_builtin; refine Kd.S_append k122 (w0 := w) w.heap.size rfl (.tmp 51) (.tmp 53) 61 122 (.agg #[(.int .i64 0), (.int .i64 0), (.slice none 0 0), (.int .i64 0), (.slice none 0 0), (.int .i64 0)]) 80 rfl Try.underlying61 info122 rfl (by decide) (by omega) u5 x5_2 (⟨((rd_T122 l0 x6_1).f0), x175001_2, (⟨t166, t169, t170, t173⟩ : S120)⟩ : S122) [.int .i64 ((rd_T122 l0 x6_1).f0), .int .i64 x175001_2, .slice Ao15 t166.length co15, .int .i64 t169, .slice Ao14 t170.length co14, .int .i64 t173] (fun k_ => k_ ≠ gb174) (fun k_ => some k_ = (.slice Ao15 t166.length co15 : Value).ownBlock ∨ some k_ = (.slice Ao14 t170.length co14 : Value).ownBlock) rfl rfl ?aP (fun k_ hk_ => hk_.elim (fun h_ => ((Kd.R_mono (ok' := fun k_ => ((fun k_ => k_ ≠ gb174)) k_ ∧ some k_ ≠ (u5 : Value).ownBlock) (Kd.R_types (Kd.R_apart' (HO_175002.out) (Kd.S_typed HO_5.out) (by decide)) BK174.out (by decide)) (fun k_ hk => ⟨hk.2, hk.1.2⟩))).1 k_ h_.symm) (fun h_ => ((Kd.R_mono (ok' := fun k_ => ((fun k_ => k_ ≠ gb174)) k_ ∧ some k_ ≠ (u5 : Value).ownBlock) (Kd.R_types (Kd.R_apart' (HO_175004.out) (Kd.S_typed HO_5.out) (by decide)) BK174.out (by decide)) (fun k_ hk => ⟨hk.2, hk.1.2⟩))).1 k_ h_.symm)) ?aF ?aO ?aB ?aS ?aL ?_; (case aP => exact k122_mkM _ _ _ (⟨((rd_T122 l0 x6_1).f0), x175001_2, (⟨t166, t169, t170, t173⟩ : S120)⟩ : S122) (Kd.R_mono (Kd.R_tight rfl (Kd.R_mono (ok' := fun k_ => ((fun k_ => k_ ≠ gb174)) k_ ∧ some k_ ≠ (u5 : Value).ownBlock) (Kd.R_types (Kd.R_apart' (HO_175002.out) (Kd.S_typed HO_5.out) (by decide)) BK174.out (by decide)) (fun k_ hk => ⟨hk.2, hk.1.2⟩))) (fun _ h_ => Or.inl h_)) (Kd.R_mono (Kd.R_tight rfl (Kd.R_mono (ok' := fun k_ => ((fun k_ => k_ ≠ gb174)) k_ ∧ some k_ ≠ (u5 : Value).ownBlock) (Kd.R_types (Kd.R_apart' (HO_175004.out) (Kd.S_typed HO_5.out) (by decide)) BK174.out (by decide)) (fun k_ hk => ⟨hk.2, hk.1.2⟩))) (fun _ h_ => Or.inr (h_)))); (case aB => exact (Z1 GE174.out)); (case aF => exact (fun k_ hk => Kd.freshB (g := gb174) (o := .cells #[.int .i64 ((rd_T122 l0 x6_1).f0), .int .i64 x175001_2, .slice Ao15 t166.length co15, .int .i64 t169, .slice Ao14 t170.length co14, .int .i64 t173] 122 (0, 0)) (Z2 BK174.out) k_ hk)); (case aO => exact (by (with_reducible repeat (first | apply Kd.S_alloc | apply Kd.S_drewN | apply Kd.S_drew)); exact Kd.S_mono HO_5.out (fun k_ hk => ⟨hk.2.2, fun e_ => e_.elim (fun h_ => hk.1 h_) (fun h_ => hk.2.1 h_)⟩))); (case aS => exact (below_size (Z1 GE174.out))); (case aL => have := LMc31.out; omega); intro v182 w33 ho hb hg hat; rw [← Ny181.out] at ho; have n0_ := A_ (blk_grown (g := gb174) (o := .cells #[.int .i64 ((rd_T122 l0 x6_1).f0), .int .i64 x175001_2, .slice Ao15 t166.length co15, .int .i64 t169, .slice Ao14 t170.length co14, .int .i64 t173] 122 (0, 0)) (Z2 BK174.out) hg (Kd.S_away HO_5.out (fun _ hk => hk.2.2))); have n1_ := A_ (hb); have n2_ := A_ (ho); clear BK174; clear HB; clear HO_5; clear HO_175002; clear HO_175004; have BK174 := n0_; have HB := n1_; have HO183 := n2_; clear n0_ n1_ n2_; clear ho hb hg hat))
         go_roundg k2
         case measure => have := HK1.out; have := HK2.out; omega
         case rel => exact ⟨(y181), (wrap64 (x6_1 + 1)), Z12, H', ⟨by have := HK1.out; have := HK2.out; omega⟩, ⟨Z45 HO183.out⟩, ⟨Z1 GE174.out⟩⟩
        ·rw [if_neg c31] at H
         exact absurd H (by simp)
    ·rw [if_neg c6] at H
     exact absurd H (by simp)
   ·rw [if_neg c5] at H
    have c5b0 : decide (x6_1 < (l0.length : Int)) = false := decide_eq_false c5
    clear c5
    obtain rfl := Option.some.inj H
    go_wp2
    go_ret
    exact ⟨_, Z4, Z9 HO_5.out, Z0⟩
def spec_TurnsCut.j0 : Nat → List (S122) → Int → Bool → Option ((List (S122)) × Bool)
 | 0, _, _, _ => none
 | k + 1, x0, x1, x14 => if x14 = true then (some (([] : List (S122)), false)) else ((spec_cutTurns.f k x0 x1).bind fun t186 => (if (t186.length : Int) > 60 then (some (([] : List (S122)), false)) else (some (t186, true))))
def spec_TurnsCut.f (k : Nat) (l0 : List (S122)) (a1 : Int) : Option ((List (S122)) × Bool) := (spec_validTurns.f k l0).bind fun t184 => (if t184 = true then ((spec_inRange.f a1 1 300).bind fun t185 => (spec_TurnsCut.j0 k l0 a1 (!t185))) else (spec_TurnsCut.j0 k l0 a1 true))
theorem spec_TurnsCut.mono_l : ∀ k, (∀ y0 y1 y2, LeO (spec_TurnsCut.j0 k y0 y1 y2) (spec_TurnsCut.j0 (k + 1) y0 y1 y2))
 | 0 => fun _ _ _ r h => by simp [spec_TurnsCut.j0] at h
 | k + 1 => by
  have ih0 := spec_TurnsCut.mono_l k
  ·intro y0 y1 y2
   unfold spec_TurnsCut.j0
   repeat' first
   | (with_reducible exact ih0 _ _ _)
   | (with_reducible exact spec_cutTurns.mono _ _ _)
   | (with_reducible exact spec_validTurns.mono _ _)
   | (with_reducible exact LeO.refl _)
   | (with_reducible exact LeO.none _)
   | (with_reducible refine LeO.ite ?_ ?_)
   | (with_reducible refine LeO.bind ?_ (fun _ => ?_))
   | exact ih0 _ _ _
   | exact spec_cutTurns.mono _ _ _
   | exact spec_validTurns.mono _ _
   | exact LeO.none _
   | refine LeO.ite ?_ ?_
   | refine LeO.bind ?_ (fun _ => ?_)
theorem spec_TurnsCut.mono : ∀ a0 a1 k, LeO (spec_TurnsCut.f k a0 a1) (spec_TurnsCut.f (k + 1) a0 a1) := by
 intro a0 a1 k
 have ih0 := spec_TurnsCut.mono_l k
 unfold spec_TurnsCut.f
 repeat' first
   | (with_reducible exact ih0 _ _ _)
   | (with_reducible exact spec_cutTurns.mono _ _ _)
   | (with_reducible exact spec_validTurns.mono _ _)
   | (with_reducible exact LeO.refl _)
   | (with_reducible exact LeO.none _)
   | (with_reducible refine LeO.ite ?_ ?_)
   | (with_reducible refine LeO.bind ?_ (fun _ => ?_))
   | exact ih0 _ _ _
   | exact spec_cutTurns.mono _ _ _
   | exact spec_validTurns.mono _ _
   | exact LeO.none _
   | refine LeO.ite ?_ ?_
   | refine LeO.bind ?_ (fun _ => ?_)
set_option maxHeartbeats 8000000 in
set_option maxRecDepth 100000 in
theorem spec_TurnsCut.calls (k : Nat) (A0 : Option Addr) (c0 : Nat) (l0 : List (S122)) (a1 : Int) (r1 : List (S122)) (r2 : Bool) (w : World) (hr0 : Kd.C k122 w A0 l0.length l0) (hc0 : l0.length ≤ c0) (h : spec_TurnsCut.f k l0 a1 = some (r1, r2)) :
  Calls Try.prog 39 #[.slice A0 l0.length c0, .int .i64 a1] w fun e w' => ∃ v0_ : Value, e = .returned (.tuple #[v0_, .bool r2]) ∧ Kd.S k122 122 w' w.heap.size (fun _ => True) v0_ r1 ∧ Below w.heap.size w w' := by
 have HR0 := A_ hr0
 have HC0 := A_ hc0
 clear hr0 hc0
 have HB := A_ (Below.refl w.heap.size w)
 have H : ((spec_validTurns.f k l0).bind fun t184 => (if t184 = true then ((spec_inRange.f a1 1 300).bind fun t185 => (spec_TurnsCut.j0 k l0 a1 (!t185))) else (spec_TurnsCut.j0 k l0 a1 true))) = some (r1, r2) := h
 clear h
 have HC3 := A_ H
 clear H
 go_enter Try.func39, Try.ntmps39
 go_upto_region 1 with (fail)
 go_cut [14] (fun v14 wc => ∃ (kq : Nat) (x14_2 : Bool), v14 = .bool x14_2 ∧ Aside0 (spec_TurnsCut.j0 kq l0 a1 x14_2 = some (r1, r2)) ∧ Aside0 (kq ≤ k) ∧ Aside0 (Below w.heap.size w wc))
 case first =>
  have H := HC3.out
  clear HC3
  replace H := Option.bind_eq_some_iff.mp H
  obtain ⟨t184, A40, H⟩ := H
  replace H : (if t184 = true then ((spec_inRange.f a1 1 300).bind fun t185 => (spec_TurnsCut.j0 k l0 a1 (!t185))) else (spec_TurnsCut.j0 k l0 a1 true)) = some (r1, r2) := H
  have A4 := A_ A40
  clear A40
  by_cases c5 : t184 = true
  ·subst c5
   have H1 : ((spec_inRange.f a1 1 300).bind fun t185 => (spec_TurnsCut.j0 k l0 a1 (!t185))) = some (r1, r2) := by rw [if_pos rfl] at H; exact H
   clear H
   have H := H1
   clear H1
   replace H := Option.bind_eq_some_iff.mp H
   obtain ⟨t185, A60, H⟩ := H
   replace H : (spec_TurnsCut.j0 k l0 a1 (!t185)) = some (r1, r2) := H
   have A6 := A_ A60
   clear A60
   have H' := A_ H
   clear H
   go_wp2_with (first | ((with_reducible refine gate_callee (f := 81) rfl ?_); refine goesL_ (some 8) rfl rfl Try.func81 (by kernel_rfl) rfl #[.slice A0 l0.length c0] rfl Z3 ?_; (with_reducible refine (spec_validTurns.calls k _ _ l0 true _ ?side1 ?side2 A4.out).mono ?_); (case side1 => exact Z6 HR0.out); (case side2 => exact HC0.out); rintro e w7 ⟨rfl, hb⟩; refine ⟨_, rfl, ?_⟩; have n0_ := A_ (below_step Z0 hb); clear HB; have HB := n0_; clear n0_; (try clear hb); (try clear hb2); (try clear hk); (try clear hi)) | (go_at_call 50; (with_reducible refine (spec_inRange.calls a1 1 300 t185 _ A6.out).mono ?_); rintro e w' ⟨rfl, ⟨nd, rfl⟩⟩))
   go_meet
   case rel => exact ⟨_, (!t185), Z12, H', ⟨by first | omega | exact Nat.le_refl _⟩, ⟨Z0⟩⟩
  ·replace c5 := Bool.eq_false_iff.mpr c5
   subst c5
   have H1 : (spec_TurnsCut.j0 k l0 a1 true) = some (r1, r2) := by rw [if_neg (show ¬ (false = true) by decide)] at H; exact H
   clear H
   have H := H1
   clear H1
   have H' := A_ H
   clear H
   go_wp2_with (first | ((with_reducible refine gate_callee (f := 81) rfl ?_); refine goesL_ (some 8) rfl rfl Try.func81 (by kernel_rfl) rfl #[.slice A0 l0.length c0] rfl Z3 ?_; (with_reducible refine (spec_validTurns.calls k _ _ l0 false _ ?side1 ?side2 A4.out).mono ?_); (case side1 => exact Z6 HR0.out); (case side2 => exact HC0.out); rintro e w8 ⟨rfl, hb⟩; refine ⟨_, rfl, ?_⟩; have n0_ := A_ (below_step Z0 hb); clear HB; have HB := n0_; clear n0_; (try clear hb); (try clear hb2); (try clear hk); (try clear hi)))
   go_meet
   case rel => exact ⟨_, (true), Z12, H', ⟨by first | omega | exact Nat.le_refl _⟩, ⟨Z0⟩⟩
 case rest =>
  clear HC3
  try clear p2
  try clear c3
  try clear c5
  try clear c8
  obtain ⟨kq, x14_2, rfl, HA, HJ2, HB⟩ := hcut
  cases kq with
  | zero => exact absurd HA.out (by simp [spec_TurnsCut.j0])
  | succ kj2 =>
   have H := HA.out
   clear HA
   simp only [spec_TurnsCut.j0] at H
   by_cases c9 : x14_2 = true
   ·subst c9
    have H1 : (some (([] : List (S122)), false)) = some (r1, r2) := by rw [if_pos rfl] at H; exact H
    clear H
    have H := H1
    clear H1
    simp only [Option.some.injEq, Prod.mk.injEq] at H
    obtain ⟨rfl, rfl⟩ := H
    go_wp2
    go_ret2
    exact ⟨_, Z4, Z43, Z0⟩
   ·replace c9 := Bool.eq_false_iff.mpr c9
    subst c9
    have H1 : ((spec_cutTurns.f kj2 l0 a1).bind fun t186 => (if (t186.length : Int) > 60 then (some (([] : List (S122)), false)) else (some (t186, true)))) = some (r1, r2) := by rw [if_neg (show ¬ (false = true) by decide)] at H; exact H
    clear H
    have H := H1
    clear H1
    replace H := Option.bind_eq_some_iff.mp H
    obtain ⟨t186, A100, H⟩ := H
    replace H : (if (t186.length : Int) > 60 then (some (([] : List (S122)), false)) else (some (t186, true))) = some (r1, r2) := H
    have A10 := A_ A100
    clear A100
    by_cases c11 : (t186.length : Int) > 60
    ·rw [if_pos c11] at H
     have c11b0 : decide (60 < (t186.length : Int)) = true := decide_eq_true c11
     have c11b1 : decide (60 < t186.length) = true := decide_eq_true (by omega)
     clear c11
     simp only [Option.some.injEq, Prod.mk.injEq] at H
     obtain ⟨rfl, rfl⟩ := H
     go_wp2_with (first | ((with_reducible refine gate_callee (f := 82) rfl ?_); refine goesL_ (some 17) rfl rfl Try.func82 (by kernel_rfl) rfl #[.slice A0 l0.length c0, .int .i64 a1] rfl Z3 ?_; (with_reducible refine (spec_cutTurns.calls kj2 _ _ l0 a1 t186 _ ?side1 ?side2 A10.out).mono ?_); (case side1 => exact Z6 HR0.out); (case side2 => exact HC0.out); rintro e w12 ⟨v187, rfl, ho0, hb⟩; refine ⟨_, rfl, ?_⟩; have n0_ := A_ (Kd.S_lower ho0 (below_size Z0)); have n1_ := A_ (below_step Z0 hb); clear HB; have HO188 := n0_; have HB := n1_; clear n0_ n1_; (try clear hb); (try clear hb2); (try clear hk); (try clear hi); (try clear ho0); obtain ⟨Ao13, co13, eo13⟩ := Kd.S_slice HO188.out; subst eo13))
     go_ret2
     exact ⟨_, Z4, Z43, Z0⟩
    ·rw [if_neg c11] at H
     have c11b0 : decide (60 < (t186.length : Int)) = false := decide_eq_false c11
     have c11b1 : decide (60 < t186.length) = false := decide_eq_false (by omega)
     clear c11
     simp only [Option.some.injEq, Prod.mk.injEq] at H
     obtain ⟨rfl, rfl⟩ := H
     go_wp2_with (first | ((with_reducible refine gate_callee (f := 82) rfl ?_); refine goesL_ (some 17) rfl rfl Try.func82 (by kernel_rfl) rfl #[.slice A0 l0.length c0, .int .i64 a1] rfl Z3 ?_; (with_reducible refine (spec_cutTurns.calls kj2 _ _ l0 a1 t186 _ ?side1 ?side2 A10.out).mono ?_); (case side1 => exact Z6 HR0.out); (case side2 => exact HC0.out); rintro e w14 ⟨v187, rfl, ho0, hb⟩; refine ⟨_, rfl, ?_⟩; have n0_ := A_ (Kd.S_lower ho0 (below_size Z0)); have n1_ := A_ (below_step Z0 hb); clear HB; have HO188 := n0_; have HB := n1_; clear n0_ n1_; (try clear hb); (try clear hb2); (try clear hk); (try clear hi); (try clear ho0); obtain ⟨Ao15, co15, eo15⟩ := Kd.S_slice HO188.out; subst eo15))
     go_ret2
     exact ⟨_, Z4, Z9 HO188.out, Z0⟩
def laws_toSlot.f (a0_0 : Int) (a0_1 : Int) : Option (Int × Int) := some (a0_0, a0_1)
set_option maxHeartbeats 8000000 in
set_option maxRecDepth 100000 in
theorem laws_toSlot.calls (a0_0 : Int) (a0_1 : Int) (r1 : Int) (r2 : Int) (w : World) (h : laws_toSlot.f a0_0 a0_1 = some (r1, r2)) :
  Calls Try.prog 62 #[.agg #[.int .i64 a0_0, .int .i64 a0_1]] w fun e w' => e = .returned (.agg #[.int .i64 r1, .int .i64 r2]) ∧ Below w.heap.size w w' := by
 have hu94 := Try.underlying94
 have hu92 := Try.underlying92
 have HB := A_ (Below.refl w.heap.size w)
 have H : (some (a0_0, a0_1)) = some (r1, r2) := h
 clear h
 simp only [Option.some.injEq, Prod.mk.injEq] at H
 obtain ⟨rfl, rfl⟩ := H
 go_enter Try.func62, Try.ntmps62
 go_wp2_with (first | ((with_reducible refine gate_dst (N := 1) rfl ?_); refine box_event ?hg (N := 1) ?hd (cs := #[.int .i64 a0_0, .int .i64 a0_1]) (t := 94) ?hr ?_; (case hd => rfl); (case hg => rfl); (case hr => exact Z11); intro gb189 hg w2 hbox hb; have n0_ := A_ (below_step Z0 hb); have n1_ := A_ (hbox); have n2_ := A_ ((by rw [hg]; exact (below_size Z0) : w.heap.size ≤ gb189)); have n3_ := A_ ((by rw [hg]; exact (below_size Z0) : w.heap.size ≤ gb189)); clear HB; have HB := n0_; have BK189 := n1_; have GW189 := n2_; have GE189 := n3_; clear n0_ n1_ n2_ n3_; clear hb hbox hg) | ((with_reducible refine gate_dst (N := 2) rfl ?_); refine box_event ?hg (N := 2) ?hd (cs := #[.int .i64 0, .int .i64 0]) (t := 92) ?hr ?_; (case hd => rfl); (case hg => rfl); (case hr => exact Z11); intro gb190 hg w3 hbox hb; have n0_ := A_ (blk_below (g := gb189) (o := .cells #[.int .i64 a0_0, .int .i64 a0_1] 94 (0, 0)) (Z2 BK189.out) hb); have n1_ := A_ (below_step (Z1 GE189.out) hb); have n2_ := A_ (hbox); have n3_ := A_ ((by rw [hg]; exact (below_size (Z1 GE189.out)) : w.heap.size ≤ gb190)); have n4_ := A_ ((by rw [hg]; exact (below_size (Z1 GE189.out)) : w.heap.size ≤ gb190)); have n5_ := A_ ((by rw [hg]; exact Nat.ne_of_lt (blk_lt (g := gb189) (o := .cells #[.int .i64 a0_0, .int .i64 a0_1] 94 (0, 0)) (Z2 BK189.out)) : gb189 ≠ gb190)); have n6_ := A_ ((by rw [hg]; exact Nat.ne_of_gt (blk_lt (g := gb189) (o := .cells #[.int .i64 a0_0, .int .i64 a0_1] 94 (0, 0)) (Z2 BK189.out)) : gb190 ≠ gb189)); clear BK189; clear HB; have BK189 := n0_; have HB := n1_; have BK190 := n2_; have GW190 := n3_; have GE190 := n4_; have NB189_190 := n5_; have NB190_189 := n6_; clear n0_ n1_ n2_ n3_ n4_ n5_ n6_; clear hb hbox hg) | ((with_reducible refine gate_dst (N := 3) rfl ?_); refine box_event ?hg (N := 3) ?hd (cs := #[.int .i64 0, .int .i64 0]) (t := 92) ?hr ?_; (case hd => rfl); (case hg => rfl); (case hr => exact Z11); intro gb191 hg w4 hbox hb; have n0_ := A_ (blk_below (g := gb189) (o := .cells #[.int .i64 a0_0, .int .i64 a0_1] 94 (0, 0)) (Z2 BK189.out) hb); have n1_ := A_ (blk_below (g := gb190) (o := .cells #[.int .i64 0, .int .i64 0] 92 (0, 0)) (Z2 BK190.out) hb); have n2_ := A_ (below_step (Z5 GE189.out GE190.out) hb); have n3_ := A_ (hbox); have n4_ := A_ ((by rw [hg]; exact (below_size (Z5 GE189.out GE190.out)) : w.heap.size ≤ gb191)); have n5_ := A_ ((by rw [hg]; exact (below_size (Z5 GE189.out GE190.out)) : w.heap.size ≤ gb191)); have n6_ := A_ ((by rw [hg]; exact Nat.ne_of_lt (blk_lt (g := gb189) (o := .cells #[.int .i64 a0_0, .int .i64 a0_1] 94 (0, 0)) (Z2 BK189.out)) : gb189 ≠ gb191)); have n7_ := A_ ((by rw [hg]; exact Nat.ne_of_gt (blk_lt (g := gb189) (o := .cells #[.int .i64 a0_0, .int .i64 a0_1] 94 (0, 0)) (Z2 BK189.out)) : gb191 ≠ gb189)); have n8_ := A_ ((by rw [hg]; exact Nat.ne_of_lt (blk_lt (g := gb190) (o := .cells #[.int .i64 0, .int .i64 0] 92 (0, 0)) (Z2 BK190.out)) : gb190 ≠ gb191)); have n9_ := A_ ((by rw [hg]; exact Nat.ne_of_gt (blk_lt (g := gb190) (o := .cells #[.int .i64 0, .int .i64 0] 92 (0, 0)) (Z2 BK190.out)) : gb191 ≠ gb190)); clear BK189; clear BK190; clear HB; have BK189 := n0_; have BK190 := n1_; have HB := n2_; have BK191 := n3_; have GW191 := n4_; have GE191 := n5_; have NB189_191 := n6_; have NB191_189 := n7_; have NB190_191 := n8_; have NB191_190 := n9_; clear n0_ n1_ n2_ n3_ n4_ n5_ n6_ n7_ n8_ n9_; clear hb hbox hg; have hnb5 := NB189_190.out; have hnc5 := NB190_189.out; have hnb6 := NB189_191.out; have hnc6 := NB191_189.out; have hcz7_0 : w4.cell? ⟨gb189, 0, none⟩ = some (.int .i64 a0_0) := (blk_cell BK189.out 0).trans rfl; have hcz7_1 : w4.cell? ⟨gb189, 1, none⟩ = some (.int .i64 a0_1) := (blk_cell BK189.out 1).trans rfl; have hfz7_0 := blk_frozen BK189.out 0; have hfz7_1 := blk_frozen BK189.out 1; have hnb8 := NB191_190.out; have hnc8 := NB190_191.out; have hcz9_0 : w4.cell? ⟨gb191, 0, none⟩ = some (.int .i64 0) := (blk_cell BK191.out 0).trans rfl; have hcz9_1 : w4.cell? ⟨gb191, 1, none⟩ = some (.int .i64 0) := (blk_cell BK191.out 1).trans rfl; have hfz9_0 := blk_frozen BK191.out 0; have hfz9_1 := blk_frozen BK191.out 1; have hcz10_0 : w4.cell? ⟨gb190, 0, none⟩ = some (.int .i64 0) := (blk_cell BK190.out 0).trans rfl; have hcz10_1 : w4.cell? ⟨gb190, 1, none⟩ = some (.int .i64 0) := (blk_cell BK190.out 1).trans rfl; have hfz10_0 := blk_frozen BK190.out 0; have hfz10_1 := blk_frozen BK190.out 1))
 refine bodyPost_ret (results_cell_row rfl _ _ gb190 92 #[.int .i64 a0_0, .int .i64 a0_1] (0, 0) _ rfl (by (with_reducible repeat (first | refine blk_drewN ?_ _ | refine blk_drew ?_ | refine blk_alloc ?_ _)); refine blk_put (cs := #[.int .i64 a0_0, .int .i64 0]) ?_ 1 _ rfl; (with_reducible repeat (first | refine blk_drewN ?_ _ | refine blk_drew ?_ | refine blk_alloc ?_ _)); refine blk_put (cs := #[.int .i64 0, .int .i64 0]) ?_ 0 _ rfl; (with_reducible repeat (first | refine blk_drewN ?_ _ | refine blk_drew ?_ | refine blk_alloc ?_ _)); refine blk_far ?_ NB190_191.out _; (with_reducible repeat (first | refine blk_drewN ?_ _ | refine blk_drew ?_ | refine blk_alloc ?_ _)); refine blk_far ?_ NB190_191.out _; (with_reducible repeat (first | refine blk_drewN ?_ _ | refine blk_drew ?_ | refine blk_alloc ?_ _)); exact BK190.out) Try.underlying92 rfl (by kernel_rfl)) rfl ?_
 exact ⟨Z4, by repeat (first | (with_reducible first | exact HB.out | apply below_alloc | apply pw_below_drewN | apply below_drew1 | refine below_set ?_ GE189.out | refine below_set ?_ GE190.out | refine below_set ?_ GE191.out) | exact HB.out)⟩
end Go.Proofs.Ytpadhphdglbciaa.PFnExactTurnsCut
