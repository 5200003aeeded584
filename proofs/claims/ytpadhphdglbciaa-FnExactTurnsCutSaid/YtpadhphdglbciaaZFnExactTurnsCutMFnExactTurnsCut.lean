/- The marks of nested rows, for the law 'FnExactTurnsCut': what they write and what they leave (no condition). -/
import Derived.Test.YtpadhphdglbciaaZFnExactTurnsCutQFnExactTurnsCutx0
import Derived.Test.YtpadhphdglbciaaZFnExactTurnsCutQFnExactTurnsCutx1
import Derived.Test.YtpadhphdglbciaaZFnExactTurnsCutQFnExactTurnsCutx2
import Derived.Test.YtpadhphdglbciaaZFnExactTurnsCutQFnExactTurnsCutx3
import Derived.Test.YtpadhphdglbciaaZFnExactTurnsCutQFnExactTurnsCutx4
import Derived.Test.YtpadhphdglbciaaZFnExactTurnsCutQFnExactTurnsCutx5
import Derived.Test.YtpadhphdglbciaaZFnExactTurnsCutQFnExactTurnsCutx6
import Derived.Test.YtpadhphdglbciaaZFnExactTurnsCutQFnExactTurnsCutx7
import Derived.Test.YtpadhphdglbciaaZFnExactTurnsCutQFnExactTurnsCutx8
import Derived.Test.YtpadhphdglbciaaZFnExactTurnsCutQFnExactTurnsCutx9
import Derived.Test.YtpadhphdglbciaaZFnExactTurnsCutQFnExactTurnsCutx10
import Derived.Test.YtpadhphdglbciaaZFnExactTurnsCutQFnExactTurnsCutx11
import Derived.Test.YtpadhphdglbciaaZFnExactTurnsCutQFnExactTurnsCutx12
import Derived.Test.YtpadhphdglbciaaZFnExactTurnsCutQFnExactTurnsCutx13
import Derived.Test.YtpadhphdglbciaaZFnExactTurnsCutQFnExactTurnsCutx14
import Derived.Test.YtpadhphdglbciaaZFnExactTurnsCutWin
namespace Go.Proofs.Ytpadhphdglbciaa.PFnExactTurnsCut
open Go Go.RowKit Go.Proofs.YtpadhphdglbciaaW.PrintWords Go.Proofs.YtpadhphdglbciaaW.PrintLast Go.Proofs.YtpadhphdglbciaaW.PrintMore
attribute [local go_sem] max2_int min2_int max_two min_two max_three min_three max_four min_four
set_option linter.unusedVariables false
set_option linter.unusedSimpArgs false
def laws_markTurnS.l0 : Nat → List (S122) → Int → Int → Option (Int × List (S122))
 | 0, _, _, _ => none
 | k + 1, x0, x1, x5 => if x5 < (x0.length : Int) then (if 0 ≤ x5 then ((laws_markSlotS.f k (((rd_T122 x0 x5)).f2.f0) (wrap64 ((wrap64 (x1 + 1)) + 1))).bind fun b2 => ((laws_markStepS.f k (((rd_T122 x0 x5)).f2.f2) (wrap64 (b2.1 + 1))).bind fun b4 => (laws_markTurnS.l0 k (x0.set (x5 : Int).toNat (⟨x1, wrap64 (x1 + 1), (⟨b2.2, b2.1, b4.2, b4.1⟩ : S120)⟩ : S122)) (wrap64 (b4.1 + 1)) (wrap64 (x5 + 1))))) else (none)) else (some (x1, x0))
def laws_markTurnS.f (k : Nat) (l0 : List (S122)) (a1 : Int) : Option (Int × List (S122)) := laws_markTurnS.l0 k l0 a1 0
theorem laws_markTurnS.mono_l : ∀ k, (∀ y0 y1 y2, LeO (laws_markTurnS.l0 k y0 y1 y2) (laws_markTurnS.l0 (k + 1) y0 y1 y2))
 | 0 => fun _ _ _ r h => by simp [laws_markTurnS.l0] at h
 | k + 1 => by
  have ih0 := laws_markTurnS.mono_l k
  ·intro y0 y1 y2
   unfold laws_markTurnS.l0
   repeat' first
   | (with_reducible exact ih0 _ _ _)
   | (with_reducible exact laws_markSlotS.mono _ _ _)
   | (with_reducible exact laws_markStepS.mono _ _ _)
   | (with_reducible exact LeO.refl _)
   | (with_reducible exact LeO.none _)
   | (with_reducible refine LeO.ite ?_ ?_)
   | (with_reducible refine LeO.bind ?_ (fun _ => ?_))
theorem laws_markTurnS.mono : ∀ a0 a1 k, LeO (laws_markTurnS.f k a0 a1) (laws_markTurnS.f (k + 1) a0 a1) := fun a0 a1 k => laws_markTurnS.mono_l k a0 a1 0
set_option maxHeartbeats 8000000 in
set_option maxRecDepth 100000 in
theorem laws_markTurnS.calls (k : Nat) (P0_ : Nat → Prop) (u9000_ : Value) (l0 : List (S122)) (a1 : Int) (r1 : Int) (r2 : List (S122)) (w0 w : World) (hB : Below w0.heap.size w0 w) (ho0 : Kd.S k122 122 w w0.heap.size P0_ u9000_ l0) (h : laws_markTurnS.f k l0 a1 = some (r1, r2)) :
  Calls Try.prog 43 #[u9000_, .int .i64 a1] w fun e w' => e = .returned (.int .i64 r1) ∧ Kd.S k122 122 w' w0.heap.size P0_ u9000_ r2 ∧ Below w0.heap.size w0 w' ∧ Kept w w' P0_ := by
 have HO0 := Aside0.mk ho0
 have HK := Aside0.mk (Kept.refl w P0_)
 have HB := Aside0.mk hB
 clear hB
 have H' := Aside0.mk (show laws_markTurnS.l0 k l0 a1 0 = some (r1, r2) from h)
 clear h
 go_enter Try.func43, Try.ntmps43
 go_wp2
 go_loopg [1, 5] k (fun kq v1 v5 w' => ∃ (x0_1 : List (S122)) (x1_1 : Int) (x5_1 : Int), v1 = .int .i64 x1_1 ∧ v5 = .int .i64 x5_1 ∧ Aside0 (laws_markTurnS.l0 kq x0_1 x1_1 x5_1 = some (r1, r2)) ∧ Aside0 (kq ≤ k) ∧ Aside0 (Kd.S k122 122 w' w0.heap.size P0_ u9000_ x0_1) ∧ Aside0 (Kept w w' P0_) ∧ Aside0 (Below w0.heap.size w0 w'))
 case atStart => exact ⟨(l0), (a1), (0), (by first | rfl | (simp; done) | (simp [*]; done)), (by first | rfl | (simp; done) | (simp [*]; done)), H', ⟨Nat.le_refl _⟩, ⟨(by (with_reducible repeat (first | apply Kd.S_alloc | apply Kd.S_drewN | apply Kd.S_drew)); exact HO0.out)⟩, ⟨by repeat (first | (with_reducible first | exact HK.out | apply Kept.alloc | apply Kept.drewN | apply Kept.drew) | exact HK.out)⟩, ⟨by repeat (first | (with_reducible first | exact HB.out | apply below_alloc | apply pw_below_drewN | apply below_drew1) | exact HB.out)⟩⟩
 case round =>
  clear H'
  try clear c2
  try clear p2
  obtain ⟨x0_1, x1_1, x5_1, rfl, rfl, HA, HK1, HO_0, HK, HB⟩ := hrel
  cases gk with
  | zero => exact absurd HA.out (by simp [laws_markTurnS.l0])
  | succ k1 =>
   have H := HA.out
   clear HA
   simp only [laws_markTurnS.l0] at H
   by_cases c3 : x5_1 < (x0_1.length : Int)
   ·rw [if_pos c3] at H
    have c3b0 : decide (x5_1 < (x0_1.length : Int)) = true := decide_eq_true c3
    clear c3
    by_cases c4 : 0 ≤ x5_1
    ·rw [if_pos c4] at H
     have c4b0 : decide (0 ≤ x5_1) = true := decide_eq_true c4
     clear c4
     replace H := Option.bind_eq_some_iff.mp H
     obtain ⟨⟨t2, y2⟩, hm2, H⟩ := H
     have HM2 := Aside0.mk hm2
     clear hm2
     replace H := Option.bind_eq_some_iff.mp H
     obtain ⟨⟨t4, y4⟩, hm4, H⟩ := H
     have HM4 := Aside0.mk hm4
     clear hm4
     have H' := Aside0.mk (show laws_markTurnS.l0 k1 (x0_1.set (x5_1 : Int).toNat (⟨x1_1, wrap64 (x1_1 + 1), (⟨y2, t2, y4, t4⟩ : S120)⟩ : S122)) (wrap64 (t4 + 1)) (wrap64 (x5_1 + 1)) = some (r1, r2) from H)
     clear H
     obtain ⟨Ao7, co7, eo7⟩ := Kd.S_slice HO_0.out
     subst eo7
     have p5 : 0 ≤ (x5_1 : Int) := of_decide_eq_true (by first | (with_reducible assumption) | assumption)
     have q5 : (x5_1 : Int) < ((x0_1.length : Int) : Int) := of_decide_eq_true (by first | (with_reducible assumption) | assumption)
     obtain ⟨go5, co5, eo5, gb5, gl5, cl5, HG5⟩ := Kd.R_form (Kd.S_R HO_0.out) (by omega)
     (first | cases eo5 | (injection eo5 with ea_ en_ ec_; (first | subst ea_ | (injection ea_ with ea_; subst ea_)); subst ec_; clear en_))
     have GB5 := Aside0.mk gb5
     clear gb5 gl5 HG5
     obtain ⟨oki, ce, hcl, hM, hcc, hoki, hH⟩ := Kd.S_lend HO_0.out z122 x5_1 p5 q5
     clear hcl hcc
     obtain ⟨v2, v4, rfl, g2, g4⟩ := k122_openM hM
     obtain ⟨A2, c2, e2⟩ := Kd.R_slice g2
     subst e2
     obtain ⟨A4, c4, e4⟩ := Kd.R_slice g4
     subst e4
     have HD2_4 := Aside0.mk (show ∀ k_, some k_ = (Value.slice A2 ((rd_T122 x0_1 x5_1).f2.f0).length c2).ownBlock → ¬ some k_ = (Value.slice A4 ((rd_T122 x0_1 x5_1).f2.f2).length c4).ownBlock from fun k_ ha_ hb_ => by
      obtain ⟨q0_, e0_⟩ := Kd.R_typed g2 k_ ha_.symm
      obtain ⟨q1_, e1_⟩ := Kd.R_typed g4 k_ hb_.symm
      rw [e0_] at e1_
      injection e1_ with e1_
      injection e1_ with _ e1_
      exact absurd e1_ (by decide))
     have HD4_2 := Aside0.mk (show ∀ k_, some k_ = (Value.slice A4 ((rd_T122 x0_1 x5_1).f2.f2).length c4).ownBlock → ¬ some k_ = (Value.slice A2 ((rd_T122 x0_1 x5_1).f2.f0).length c2).ownBlock from fun k_ ha_ hb_ => by
      obtain ⟨q0_, e0_⟩ := Kd.R_typed g4 k_ ha_.symm
      obtain ⟨q1_, e1_⟩ := Kd.R_typed g2 k_ hb_.symm
      rw [e0_] at e1_
      injection e1_ with e1_
      injection e1_ with _ e1_
      exact absurd e1_ (by decide))
     have HI2 := Aside0.mk (show ∀ k_, some k_ = (Value.slice A2 ((rd_T122 x0_1 x5_1).f2.f0).length c2).ownBlock → oki k_ from fun k_ e_ => g2.1 k_ e_.symm)
     have HR2 := Aside0.mk (Kd.R_tight rfl g2)
     have HI4 := Aside0.mk (show ∀ k_, some k_ = (Value.slice A4 ((rd_T122 x0_1 x5_1).f2.f2).length c4).ownBlock → oki k_ from fun k_ e_ => g4.1 k_ e_.symm)
     have HR4 := Aside0.mk (Kd.R_tight rfl g4)
     have HN := Aside0.mk hoki
     have HP5 := Aside0.mk p5
     have HQ5 := Aside0.mk q5
     have HH := Aside0.mk (show Kd.H k122 122 wr w0.heap.size P0_ (.slice (some ⟨go5, 0, none⟩) x0_1.length co7) x0_1 x5_1 oki [(.int .i64 ((rd_T122 x0_1 x5_1).f0)), (.int .i64 ((rd_T122 x0_1 x5_1).f1)), (.slice A2 ((rd_T122 x0_1 x5_1).f2.f0).length c2), (.int .i64 ((rd_T122 x0_1 x5_1).f2.f1)), (.slice A4 ((rd_T122 x0_1 x5_1).f2.f2).length c4), (.int .i64 ((rd_T122 x0_1 x5_1).f2.f3))] from hH)
     obtain ⟨hz_, hf_⟩ := Kd.H_hole HH.out HP5.out HQ5.out
     have hx0 : (wr).cell? ⟨go5, (x5_1 : Int).toNat * 6, none⟩ = some (.int .i64 ((rd_T122 x0_1 x5_1).f0)) := hz_ 0 _ rfl
     have hf0 : (wr).frozen? ⟨go5, (x5_1 : Int).toNat * 6, none⟩ = false := hf_ 0
     clear hz_ hf_
     clear g2 g4 hM hoki hH
     replace p5 := eq_true p5
     replace q5 := eq_true q5
     go_wp2_with (first | ((with_reducible refine gate_store (t := 3) (p := 16) rfl ?_); refine store_event (t := 3) (p := 16) (v := ?vo_we0) (w1 := (wr.setCell ⟨go5, (x5_1 : Int).toNat * 6, none⟩ (.int .i64 (x1_1)))) ?hg ?ho ?hn ?hr ?_; (case ho => rfl); (case hg => rfl); (case hn => rfl); (case hr => first | (go_simp; done) | (go_simp; rfl)); intro we0 hw; have hp_ := Kd.H_poke HH.out HP5.out HQ5.out (j := 0) (u := .int .i64 (x1_1)) (by decide) rfl; have hg_ : wr.grownBy we0 (some go5) := (by rw [hw]; exact hp_.2); have n0_ := Aside0.mk (show Kd.H k122 122 we0 w0.heap.size P0_ (.slice (some ⟨go5, 0, none⟩) x0_1.length co7) x0_1 x5_1 oki [(.int .i64 (x1_1)), (.int .i64 ((rd_T122 x0_1 x5_1).f1)), (.slice A2 ((rd_T122 x0_1 x5_1).f2.f0).length c2), (.int .i64 ((rd_T122 x0_1 x5_1).f2.f1)), (.slice A4 ((rd_T122 x0_1 x5_1).f2.f2).length c4), (.int .i64 ((rd_T122 x0_1 x5_1).f2.f3))] from (by rw [hw]; exact hp_.1)); have n1_ := Aside0.mk ((by rw [hw]; exact below_set (HB.out) GB5.out : Below w0.heap.size w0 we0)); have n2_ := Aside0.mk (Kept.of_grown (S := P0_) hg_ (by repeat (first | (with_reducible first | exact HK.out | apply Kept.alloc | apply Kept.drewN | apply Kept.drew) | exact HK.out)) (fun k_ e_ => .inl ((Kd.S_R HO_0.out).1 k_ e_))); have m2_ := Aside0.mk (Kd.R_grown HR2.out hg_ (fun k_ e_ he_ => (HN.out k_ (HI2.out k_ e_)).2 (by injection he_))); have m4_ := Aside0.mk (Kd.R_grown HR4.out hg_ (fun k_ e_ he_ => (HN.out k_ (HI4.out k_ e_)).2 (by injection he_))); clear HH HB HK hp_ hg_ hw hx0 hf0 HR2 HR4; have HH := n0_; have HB := n1_; have HK := n2_; clear n0_ n1_ n2_; have HR2 := m2_; clear m2_; have HR4 := m4_; clear m4_; obtain ⟨hz_, hf_⟩ := Kd.H_hole HH.out HP5.out HQ5.out; have hx1 : (we0).cell? ⟨go5, (x5_1 : Int).toNat * 6 + 1, none⟩ = some (.int .i64 ((rd_T122 x0_1 x5_1).f1)) := hz_ 1 _ rfl; have hf1 : (we0).frozen? ⟨go5, (x5_1 : Int).toNat * 6 + 1, none⟩ = false := hf_ 1; clear hz_ hf_) | ((with_reducible refine gate_store (t := 3) (p := 23) rfl ?_); refine store_event (t := 3) (p := 23) (v := ?vo_we1) (w1 := (we0.setCell ⟨go5, (x5_1 : Int).toNat * 6 + 1, none⟩ (.int .i64 (wrap64 (x1_1 + 1))))) ?hg ?ho ?hn ?hr ?_; (case ho => rfl); (case hg => rfl); (case hn => rfl); (case hr => first | (go_simp; done) | (go_simp; rfl)); intro we1 hw; have hp_ := Kd.H_poke HH.out HP5.out HQ5.out (j := 1) (u := .int .i64 (wrap64 (x1_1 + 1))) (by decide) rfl; have hg_ : we0.grownBy we1 (some go5) := (by rw [hw]; exact hp_.2); have n0_ := Aside0.mk (show Kd.H k122 122 we1 w0.heap.size P0_ (.slice (some ⟨go5, 0, none⟩) x0_1.length co7) x0_1 x5_1 oki [(.int .i64 (x1_1)), (.int .i64 (wrap64 (x1_1 + 1))), (.slice A2 ((rd_T122 x0_1 x5_1).f2.f0).length c2), (.int .i64 ((rd_T122 x0_1 x5_1).f2.f1)), (.slice A4 ((rd_T122 x0_1 x5_1).f2.f2).length c4), (.int .i64 ((rd_T122 x0_1 x5_1).f2.f3))] from (by rw [hw]; exact hp_.1)); have n1_ := Aside0.mk ((by rw [hw]; exact below_set (HB.out) GB5.out : Below w0.heap.size w0 we1)); have n2_ := Aside0.mk (Kept.of_grown (S := P0_) hg_ (by repeat (first | (with_reducible first | exact HK.out | apply Kept.alloc | apply Kept.drewN | apply Kept.drew) | exact HK.out)) (fun k_ e_ => .inl ((Kd.S_R HO_0.out).1 k_ e_))); have m2_ := Aside0.mk (Kd.R_grown HR2.out hg_ (fun k_ e_ he_ => (HN.out k_ (HI2.out k_ e_)).2 (by injection he_))); have m4_ := Aside0.mk (Kd.R_grown HR4.out hg_ (fun k_ e_ he_ => (HN.out k_ (HI4.out k_ e_)).2 (by injection he_))); clear HH HB HK hp_ hg_ hw hx1 hf1 HR2 HR4; have HH := n0_; have HB := n1_; have HK := n2_; clear n0_ n1_ n2_; have HR2 := m2_; clear m2_; have HR4 := m4_; clear m4_; obtain ⟨hz_, hf_⟩ := Kd.H_hole HH.out HP5.out HQ5.out; have hx2 : (we1).cell? ⟨go5, (x5_1 : Int).toNat * 6 + 2, none⟩ = some (.slice A2 ((rd_T122 x0_1 x5_1).f2.f0).length c2) := hz_ 2 _ rfl; have HKr := Aside0.mk (Kept.refl we1 (fun k_ => some k_ = (Value.slice A2 ((rd_T122 x0_1 x5_1).f2.f0).length c2).ownBlock)); clear hz_ hf_) | ((with_reducible refine gate_callee (f := 28) rfl ?_); refine goesL_ (some 33) rfl rfl Try.func28 (by kernel_rfl) rfl #[.slice A2 ((rd_T122 x0_1 x5_1).f2.f0).length c2, .int .i64 (wrap64 ((wrap64 (x1_1 + 1)) + 1))] rfl (by (try simp only [List.map_toArray, List.map_cons, List.map_nil]); first | done | rfl) ?_; (with_reducible refine (laws_markSlotS.calls k1 (fun k_ => some k_ = (Value.slice A2 ((rd_T122 x0_1 x5_1).f2.f0).length c2).ownBlock) _ ((rd_T122 x0_1 x5_1).f2.f0) (wrap64 ((wrap64 (x1_1 + 1)) + 1)) t2 y2 w0 _ ?side1 ?side2 HM2.out).mono ?_); (case side1 => repeat (first | (with_reducible first | exact HB.out | apply below_alloc | apply pw_below_drewN | apply below_drew1) | exact HB.out)); (case side2 => exact (by (with_reducible repeat (first | apply Kd.R_alloc | apply Kd.R_drewN | apply Kd.R_drew)); exact HR2.out)); rintro e we2 ⟨rfl, hy_, hb_, hkp_⟩; refine ⟨_, rfl, ?_⟩; have hkq_ := Kept.then_ (by repeat (first | (with_reducible first | exact HKr.out | apply Kept.alloc | apply Kept.drewN | apply Kept.drew) | exact HKr.out)) hkp_ (fun _ hk_ => .inl hk_); have n0_ := Aside0.mk (Kd.H_step HH.out (fun k_ _ hn_ hlt_ => hkq_.2 k_ hlt_ (fun e_ => hn_ (HI2.out k_ e_)))); have n1_ := Aside0.mk hb_; have n2_ := Aside0.mk (HK.out.then_ hkq_ (fun k_ e_ => .inl (HN.out k_ (HI2.out k_ e_)).1)); have m2_ := Aside0.mk (Kd.R_tight rfl hy_); have m4_ := Aside0.mk (Kd.R_kept HR4.out hkq_ HD4_2.out); clear HH HB HK HKr hy_ hb_ hkp_ hkq_ hx2 HR2 HR4; have HH := n0_; have HB := n1_; have HK := n2_; clear n0_ n1_ n2_; have HR2 := m2_; clear m2_; have HR4 := m4_; clear m4_; obtain ⟨hz_, hf_⟩ := Kd.H_hole HH.out HP5.out HQ5.out; have hx3 : (we2).cell? ⟨go5, (x5_1 : Int).toNat * 6 + 3, none⟩ = some (.int .i64 ((rd_T122 x0_1 x5_1).f2.f1)) := hz_ 3 _ rfl; have hf3 : (we2).frozen? ⟨go5, (x5_1 : Int).toNat * 6 + 3, none⟩ = false := hf_ 3; clear hz_ hf_) | ((with_reducible refine gate_store (t := 3) (p := 39) rfl ?_); refine store_event (t := 3) (p := 39) (v := ?vo_we3) (w1 := (we2.setCell ⟨go5, (x5_1 : Int).toNat * 6 + 3, none⟩ (.int .i64 (t2)))) ?hg ?ho ?hn ?hr ?_; (case ho => rfl); (case hg => rfl); (case hn => rfl); (case hr => first | (go_simp; done) | (go_simp; rfl)); intro we3 hw; have hp_ := Kd.H_poke HH.out HP5.out HQ5.out (j := 3) (u := .int .i64 (t2)) (by decide) rfl; have hg_ : we2.grownBy we3 (some go5) := (by rw [hw]; exact hp_.2); have n0_ := Aside0.mk (show Kd.H k122 122 we3 w0.heap.size P0_ (.slice (some ⟨go5, 0, none⟩) x0_1.length co7) x0_1 x5_1 oki [(.int .i64 (x1_1)), (.int .i64 (wrap64 (x1_1 + 1))), (.slice A2 ((rd_T122 x0_1 x5_1).f2.f0).length c2), (.int .i64 (t2)), (.slice A4 ((rd_T122 x0_1 x5_1).f2.f2).length c4), (.int .i64 ((rd_T122 x0_1 x5_1).f2.f3))] from (by rw [hw]; exact hp_.1)); have n1_ := Aside0.mk ((by rw [hw]; exact below_set (HB.out) GB5.out : Below w0.heap.size w0 we3)); have n2_ := Aside0.mk (Kept.of_grown (S := P0_) hg_ (by repeat (first | (with_reducible first | exact HK.out | apply Kept.alloc | apply Kept.drewN | apply Kept.drew) | exact HK.out)) (fun k_ e_ => .inl ((Kd.S_R HO_0.out).1 k_ e_))); have m2_ := Aside0.mk (Kd.R_grown HR2.out hg_ (fun k_ e_ he_ => (HN.out k_ (HI2.out k_ e_)).2 (by injection he_))); have m4_ := Aside0.mk (Kd.R_grown HR4.out hg_ (fun k_ e_ he_ => (HN.out k_ (HI4.out k_ e_)).2 (by injection he_))); clear HH HB HK hp_ hg_ hw hx3 hf3 HR2 HR4; have HH := n0_; have HB := n1_; have HK := n2_; clear n0_ n1_ n2_; have HR2 := m2_; clear m2_; have HR4 := m4_; clear m4_; obtain ⟨hz_, hf_⟩ := Kd.H_hole HH.out HP5.out HQ5.out; have hx4 : (we3).cell? ⟨go5, (x5_1 : Int).toNat * 6 + 4, none⟩ = some (.slice A4 ((rd_T122 x0_1 x5_1).f2.f2).length c4) := hz_ 4 _ rfl; have HKr := Aside0.mk (Kept.refl we3 (fun k_ => some k_ = (Value.slice A4 ((rd_T122 x0_1 x5_1).f2.f2).length c4).ownBlock)); clear hz_ hf_) | ((with_reducible refine gate_callee (f := 87) rfl ?_); refine goesL_ (some 49) rfl rfl Try.func87 (by kernel_rfl) rfl #[.slice A4 ((rd_T122 x0_1 x5_1).f2.f2).length c4, .int .i64 (wrap64 (t2 + 1))] rfl (by (try simp only [List.map_toArray, List.map_cons, List.map_nil]); first | done | rfl) ?_; (with_reducible refine (laws_markStepS.calls k1 (fun k_ => some k_ = (Value.slice A4 ((rd_T122 x0_1 x5_1).f2.f2).length c4).ownBlock) _ ((rd_T122 x0_1 x5_1).f2.f2) (wrap64 (t2 + 1)) t4 y4 w0 _ ?side1 ?side2 HM4.out).mono ?_); (case side1 => repeat (first | (with_reducible first | exact HB.out | apply below_alloc | apply pw_below_drewN | apply below_drew1) | exact HB.out)); (case side2 => exact (by (with_reducible repeat (first | apply Kd.R_alloc | apply Kd.R_drewN | apply Kd.R_drew)); exact HR4.out)); rintro e we4 ⟨rfl, hy_, hb_, hkp_⟩; refine ⟨_, rfl, ?_⟩; have hkq_ := Kept.then_ (by repeat (first | (with_reducible first | exact HKr.out | apply Kept.alloc | apply Kept.drewN | apply Kept.drew) | exact HKr.out)) hkp_ (fun _ hk_ => .inl hk_); have n0_ := Aside0.mk (Kd.H_step HH.out (fun k_ _ hn_ hlt_ => hkq_.2 k_ hlt_ (fun e_ => hn_ (HI4.out k_ e_)))); have n1_ := Aside0.mk hb_; have n2_ := Aside0.mk (HK.out.then_ hkq_ (fun k_ e_ => .inl (HN.out k_ (HI4.out k_ e_)).1)); have m2_ := Aside0.mk (Kd.R_kept HR2.out hkq_ HD2_4.out); have m4_ := Aside0.mk (Kd.R_tight rfl hy_); clear HH HB HK HKr hy_ hb_ hkp_ hkq_ hx4 HR2 HR4; have HH := n0_; have HB := n1_; have HK := n2_; clear n0_ n1_ n2_; have HR2 := m2_; clear m2_; have HR4 := m4_; clear m4_; obtain ⟨hz_, hf_⟩ := Kd.H_hole HH.out HP5.out HQ5.out; have hx5 : (we4).cell? ⟨go5, (x5_1 : Int).toNat * 6 + 5, none⟩ = some (.int .i64 ((rd_T122 x0_1 x5_1).f2.f3)) := hz_ 5 _ rfl; have hf5 : (we4).frozen? ⟨go5, (x5_1 : Int).toNat * 6 + 5, none⟩ = false := hf_ 5; clear hz_ hf_) | ((with_reducible refine gate_store (t := 3) (p := 55) rfl ?_); refine store_event (t := 3) (p := 55) (v := ?vo_we5) (w1 := (we4.setCell ⟨go5, (x5_1 : Int).toNat * 6 + 5, none⟩ (.int .i64 (t4)))) ?hg ?ho ?hn ?hr ?_; (case ho => rfl); (case hg => rfl); (case hn => rfl); (case hr => first | (go_simp; done) | (go_simp; rfl)); intro we5 hw; have hp_ := Kd.H_poke HH.out HP5.out HQ5.out (j := 5) (u := .int .i64 (t4)) (by decide) rfl; have hg_ : we4.grownBy we5 (some go5) := (by rw [hw]; exact hp_.2); have n0_ := Aside0.mk (show Kd.H k122 122 we5 w0.heap.size P0_ (.slice (some ⟨go5, 0, none⟩) x0_1.length co7) x0_1 x5_1 oki [(.int .i64 (x1_1)), (.int .i64 (wrap64 (x1_1 + 1))), (.slice A2 ((rd_T122 x0_1 x5_1).f2.f0).length c2), (.int .i64 (t2)), (.slice A4 ((rd_T122 x0_1 x5_1).f2.f2).length c4), (.int .i64 (t4))] from (by rw [hw]; exact hp_.1)); have n1_ := Aside0.mk ((by rw [hw]; exact below_set (HB.out) GB5.out : Below w0.heap.size w0 we5)); have n2_ := Aside0.mk (Kept.of_grown (S := P0_) hg_ (by repeat (first | (with_reducible first | exact HK.out | apply Kept.alloc | apply Kept.drewN | apply Kept.drew) | exact HK.out)) (fun k_ e_ => .inl ((Kd.S_R HO_0.out).1 k_ e_))); have m2_ := Aside0.mk (Kd.R_grown HR2.out hg_ (fun k_ e_ he_ => (HN.out k_ (HI2.out k_ e_)).2 (by injection he_))); have m4_ := Aside0.mk (Kd.R_grown HR4.out hg_ (fun k_ e_ he_ => (HN.out k_ (HI4.out k_ e_)).2 (by injection he_))); clear HH HB HK hp_ hg_ hw hx5 hf5 HR2 HR4; have HH := n0_; have HB := n1_; have HK := n2_; clear n0_ n1_ n2_; have HR2 := m2_; clear m2_; have HR4 := m4_; clear m4_; have n0_ := Aside0.mk (Kd.H_back (okp := oki) HH.out (k122_mkM we5 w0.heap.size oki (⟨x1_1, wrap64 (x1_1 + 1), (⟨y2, t2, y4, t4⟩ : S120)⟩ : S122) (Kd.R_mono HR2.out HI2.out) (Kd.R_mono HR4.out HI4.out)) (fun _ hk_ => hk_)); clear HO_0; have HO_0 := n0_; clear n0_))
     go_roundg k1
     case measure => have := HK1.out; omega
     case rel => exact ⟨_, (wrap64 (t4 + 1)), (wrap64 (x5_1 + 1)), (by first | rfl | (simp; done) | (simp [*]; done)), (by first | rfl | (simp; done) | (simp [*]; done)), H', ⟨by have := HK1.out; omega⟩, ⟨(by (with_reducible repeat (first | apply Kd.S_alloc | apply Kd.S_drewN | apply Kd.S_drew)); exact HO_0.out)⟩, ⟨by repeat (first | (with_reducible first | exact HK.out | apply Kept.alloc | apply Kept.drewN | apply Kept.drew) | exact HK.out)⟩, ⟨by repeat (first | (with_reducible first | exact HB.out | apply below_alloc | apply pw_below_drewN | apply below_drew1) | exact HB.out)⟩⟩
    ·rw [if_neg c4] at H
     exact absurd H (by simp)
   ·rw [if_neg c3] at H
    have c3b0 : decide (x5_1 < (x0_1.length : Int)) = false := decide_eq_false c3
    clear c3
    simp only [Option.some.injEq, Prod.mk.injEq] at H
    obtain ⟨rfl, rfl⟩ := H
    obtain ⟨Ao12, co12, eo12⟩ := Kd.S_slice HO_0.out
    subst eo12
    go_wp2
    go_ret
    exact ⟨by first | rfl | (simp [errW_none, errW_some] <;> rfl) | (simp [*, errW_none, errW_some] <;> rfl), (by (with_reducible repeat (first | apply Kd.S_alloc | apply Kd.S_drewN | apply Kd.S_drew)); exact HO_0.out), by repeat (first | (with_reducible first | exact HB.out | apply below_alloc | apply pw_below_drewN | apply below_drew1) | exact HB.out), by repeat (first | (with_reducible first | exact HK.out | apply Kept.alloc | apply Kept.drewN | apply Kept.drew) | exact HK.out)⟩
end Go.Proofs.Ytpadhphdglbciaa.PFnExactTurnsCut
