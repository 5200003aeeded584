/- The marks of nested rows, for the law 'FnExactEffectsLive': what they write and what they leave (no condition). -/
import Derived.Test.YtpadhphdglbciaaZFnExactEffectsLiveQFnExactEffectsLivex0
import Derived.Test.YtpadhphdglbciaaZFnExactEffectsLiveQFnExactEffectsLivex1
import Derived.Test.YtpadhphdglbciaaZFnExactEffectsLiveQFnExactEffectsLivex2
import Derived.Test.YtpadhphdglbciaaZFnExactEffectsLiveQFnExactEffectsLivex3
import Derived.Test.YtpadhphdglbciaaZFnExactEffectsLiveQFnExactEffectsLivex4
import Derived.Test.YtpadhphdglbciaaZFnExactEffectsLiveQFnExactEffectsLivex5
import Derived.Test.YtpadhphdglbciaaZFnExactEffectsLiveQFnExactEffectsLivex6
import Derived.Test.YtpadhphdglbciaaZFnExactEffectsLiveQFnExactEffectsLivex7
import Derived.Test.YtpadhphdglbciaaZFnExactEffectsLiveQFnExactEffectsLivex8
import Derived.Test.YtpadhphdglbciaaZFnExactEffectsLiveQFnExactEffectsLivex9
import Derived.Test.YtpadhphdglbciaaZFnExactEffectsLiveWin
namespace Go.Proofs.Ytpadhphdglbciaa.PFnExactEffectsLive
open Go Go.RowKit Go.Proofs.YtpadhphdglbciaaW.PrintWords Go.Proofs.YtpadhphdglbciaaW.PrintLast Go.Proofs.YtpadhphdglbciaaW.PrintMore
attribute [local go_sem] max2_int min2_int max_two min_two max_three min_three max_four min_four
set_option linter.unusedVariables false
set_option linter.unusedSimpArgs false
def laws_markEffectS.l0 : Nat → List (S75) → Int → Int → Option (Int × List (S75))
 | 0, _, _, _ => none
 | k + 1, x0, x1, x5 => if x5 < (x0.length : Int) then (if 0 ≤ x5 then ((laws_markSlotS.f k (((rd_T75 x0 x5)).f1) (wrap64 (x1 + 1))).bind fun b1 => (laws_markEffectS.l0 k (x0.set (x5 : Int).toNat (⟨x1, b1.2⟩ : S75)) (b1.1) (wrap64 (x5 + 1)))) else (none)) else (some (x1, x0))
def laws_markEffectS.f (k : Nat) (l0 : List (S75)) (a1 : Int) : Option (Int × List (S75)) := laws_markEffectS.l0 k l0 a1 0
theorem laws_markEffectS.mono_l : ∀ k, (∀ y0 y1 y2, LeO (laws_markEffectS.l0 k y0 y1 y2) (laws_markEffectS.l0 (k + 1) y0 y1 y2))
 | 0 => fun _ _ _ r h => by simp [laws_markEffectS.l0] at h
 | k + 1 => by
  have ih0 := laws_markEffectS.mono_l k
  ·intro y0 y1 y2
   unfold laws_markEffectS.l0
   repeat' first
   | (with_reducible exact ih0 _ _ _)
   | (with_reducible exact laws_markSlotS.mono _ _ _)
   | (with_reducible exact LeO.refl _)
   | (with_reducible exact LeO.none _)
   | (with_reducible refine LeO.ite ?_ ?_)
   | (with_reducible refine LeO.bind ?_ (fun _ => ?_))
theorem laws_markEffectS.mono : ∀ a0 a1 k, LeO (laws_markEffectS.f k a0 a1) (laws_markEffectS.f (k + 1) a0 a1) := fun a0 a1 k => laws_markEffectS.mono_l k a0 a1 0
set_option maxHeartbeats 8000000 in
set_option maxRecDepth 100000 in
theorem laws_markEffectS.calls (k : Nat) (P0_ : Nat → Prop) (u9000_ : Value) (l0 : List (S75)) (a1 : Int) (r1 : Int) (r2 : List (S75)) (w0 w : World) (hB : Below w0.heap.size w0 w) (ho0 : Kd.S k75 75 w w0.heap.size P0_ u9000_ l0) (h : laws_markEffectS.f k l0 a1 = some (r1, r2)) :
  Calls Try.prog 15 #[u9000_, .int .i64 a1] w fun e w' => e = .returned (.int .i64 r1) ∧ Kd.S k75 75 w' w0.heap.size P0_ u9000_ r2 ∧ Below w0.heap.size w0 w' ∧ Kept w w' P0_ := by
 have HO0 := Aside0.mk ho0
 have HK := Aside0.mk (Kept.refl w P0_)
 have HB := Aside0.mk hB
 clear hB
 have H' := Aside0.mk (show laws_markEffectS.l0 k l0 a1 0 = some (r1, r2) from h)
 clear h
 go_enter Try.func15, Try.ntmps15
 go_wp2
 go_loopg [1, 5] k (fun kq v1 v5 w' => ∃ (x0_1 : List (S75)) (x1_1 : Int) (x5_1 : Int), v1 = .int .i64 x1_1 ∧ v5 = .int .i64 x5_1 ∧ Aside0 (laws_markEffectS.l0 kq x0_1 x1_1 x5_1 = some (r1, r2)) ∧ Aside0 (kq ≤ k) ∧ Aside0 (Kd.S k75 75 w' w0.heap.size P0_ u9000_ x0_1) ∧ Aside0 (Kept w w' P0_) ∧ Aside0 (Below w0.heap.size w0 w'))
 case atStart => exact ⟨(l0), (a1), (0), (by first | rfl | (simp; done) | (simp [*]; done)), (by first | rfl | (simp; done) | (simp [*]; done)), H', ⟨Nat.le_refl _⟩, ⟨(by (with_reducible repeat (first | apply Kd.S_alloc | apply Kd.S_drewN | apply Kd.S_drew)); exact HO0.out)⟩, ⟨by repeat (first | (with_reducible first | exact HK.out | apply Kept.alloc | apply Kept.drewN | apply Kept.drew) | exact HK.out)⟩, ⟨by repeat (first | (with_reducible first | exact HB.out | apply below_alloc | apply pw_below_drewN | apply below_drew1) | exact HB.out)⟩⟩
 case round =>
  clear H'
  try clear c2
  try clear p2
  obtain ⟨x0_1, x1_1, x5_1, rfl, rfl, HA, HK1, HO_0, HK, HB⟩ := hrel
  cases gk with
  | zero => exact absurd HA.out (by simp [laws_markEffectS.l0])
  | succ k1 =>
   have H := HA.out
   clear HA
   simp only [laws_markEffectS.l0] at H
   by_cases c3 : x5_1 < (x0_1.length : Int)
   ·rw [if_pos c3] at H
    have c3b0 : decide (x5_1 < (x0_1.length : Int)) = true := decide_eq_true c3
    clear c3
    by_cases c4 : 0 ≤ x5_1
    ·rw [if_pos c4] at H
     have c4b0 : decide (0 ≤ x5_1) = true := decide_eq_true c4
     clear c4
     replace H := Option.bind_eq_some_iff.mp H
     obtain ⟨⟨t1, y1⟩, hm1, H⟩ := H
     have HM1 := Aside0.mk hm1
     clear hm1
     have H' := Aside0.mk (show laws_markEffectS.l0 k1 (x0_1.set (x5_1 : Int).toNat (⟨x1_1, y1⟩ : S75)) (t1) (wrap64 (x5_1 + 1)) = some (r1, r2) from H)
     clear H
     obtain ⟨Ao7, co7, eo7⟩ := Kd.S_slice HO_0.out
     subst eo7
     have p5 : 0 ≤ (x5_1 : Int) := of_decide_eq_true (by first | (with_reducible assumption) | assumption)
     have q5 : (x5_1 : Int) < ((x0_1.length : Int) : Int) := of_decide_eq_true (by first | (with_reducible assumption) | assumption)
     obtain ⟨go5, co5, eo5, gb5, gl5, cl5, HG5⟩ := Kd.R_form (Kd.S_R HO_0.out) (by omega)
     (first | cases eo5 | (injection eo5 with ea_ en_ ec_; (first | subst ea_ | (injection ea_ with ea_; subst ea_)); subst ec_; clear en_))
     have GB5 := Aside0.mk gb5
     clear gb5 gl5 HG5
     obtain ⟨oki, ce, hcl, hM, hcc, hoki, hH⟩ := Kd.S_lend HO_0.out z75 x5_1 p5 q5
     clear hcl hcc
     obtain ⟨v1, rfl, g1⟩ := k75_openM hM
     obtain ⟨A1, c1, e1⟩ := Kd.R_slice g1
     subst e1
     have HI1 := Aside0.mk (show ∀ k_, some k_ = (Value.slice A1 ((rd_T75 x0_1 x5_1).f1).length c1).ownBlock → oki k_ from fun k_ e_ => g1.1 k_ e_.symm)
     have HR1 := Aside0.mk (Kd.R_tight rfl g1)
     have HN := Aside0.mk hoki
     have HP5 := Aside0.mk p5
     have HQ5 := Aside0.mk q5
     have HH := Aside0.mk (show Kd.H k75 75 wr w0.heap.size P0_ (.slice (some ⟨go5, 0, none⟩) x0_1.length co7) x0_1 x5_1 oki [(.int .i64 ((rd_T75 x0_1 x5_1).f0)), (.slice A1 ((rd_T75 x0_1 x5_1).f1).length c1)] from hH)
     obtain ⟨hz_, hf_⟩ := Kd.H_hole HH.out HP5.out HQ5.out
     have hx0 : (wr).cell? ⟨go5, (x5_1 : Int).toNat * 2, none⟩ = some (.int .i64 ((rd_T75 x0_1 x5_1).f0)) := hz_ 0 _ rfl
     have hf0 : (wr).frozen? ⟨go5, (x5_1 : Int).toNat * 2, none⟩ = false := hf_ 0
     clear hz_ hf_
     clear g1 hM hoki hH
     replace p5 := eq_true p5
     replace q5 := eq_true q5
     go_wp2_with (first | ((with_reducible refine gate_store (t := 3) (p := 16) rfl ?_); refine store_event (t := 3) (p := 16) (v := ?vo_we0) (w1 := (wr.setCell ⟨go5, (x5_1 : Int).toNat * 2, none⟩ (.int .i64 (x1_1)))) ?hg ?ho ?hn ?hr ?_; (case ho => rfl); (case hg => rfl); (case hn => rfl); (case hr => first | (go_simp; done) | (go_simp; rfl)); intro we0 hw; have hp_ := Kd.H_poke HH.out HP5.out HQ5.out (j := 0) (u := .int .i64 (x1_1)) (by decide) rfl; have hg_ : wr.grownBy we0 (some go5) := (by rw [hw]; exact hp_.2); have n0_ := Aside0.mk (show Kd.H k75 75 we0 w0.heap.size P0_ (.slice (some ⟨go5, 0, none⟩) x0_1.length co7) x0_1 x5_1 oki [(.int .i64 (x1_1)), (.slice A1 ((rd_T75 x0_1 x5_1).f1).length c1)] from (by rw [hw]; exact hp_.1)); have n1_ := Aside0.mk ((by rw [hw]; exact below_set (HB.out) GB5.out : Below w0.heap.size w0 we0)); have n2_ := Aside0.mk (Kept.of_grown (S := P0_) hg_ (by repeat (first | (with_reducible first | exact HK.out | apply Kept.alloc | apply Kept.drewN | apply Kept.drew) | exact HK.out)) (fun k_ e_ => .inl ((Kd.S_R HO_0.out).1 k_ e_))); have m1_ := Aside0.mk (Kd.R_grown HR1.out hg_ (fun k_ e_ he_ => (HN.out k_ (HI1.out k_ e_)).2 (by injection he_))); clear HH HB HK hp_ hg_ hw hx0 hf0 HR1; have HH := n0_; have HB := n1_; have HK := n2_; clear n0_ n1_ n2_; have HR1 := m1_; clear m1_; obtain ⟨hz_, hf_⟩ := Kd.H_hole HH.out HP5.out HQ5.out; have hx1 : (we0).cell? ⟨go5, (x5_1 : Int).toNat * 2 + 1, none⟩ = some (.slice A1 ((rd_T75 x0_1 x5_1).f1).length c1) := hz_ 1 _ rfl; have HKr := Aside0.mk (Kept.refl we0 (fun k_ => some k_ = (Value.slice A1 ((rd_T75 x0_1 x5_1).f1).length c1).ownBlock)); clear hz_ hf_) | ((with_reducible refine gate_callee (f := 28) rfl ?_); refine goesL_ (some 25) rfl rfl Try.func28 (by kernel_rfl) rfl #[.slice A1 ((rd_T75 x0_1 x5_1).f1).length c1, .int .i64 (wrap64 (x1_1 + 1))] rfl (by (try simp only [List.map_toArray, List.map_cons, List.map_nil]); first | done | rfl) ?_; (with_reducible refine (laws_markSlotS.calls k1 (fun k_ => some k_ = (Value.slice A1 ((rd_T75 x0_1 x5_1).f1).length c1).ownBlock) _ ((rd_T75 x0_1 x5_1).f1) (wrap64 (x1_1 + 1)) t1 y1 w0 _ ?side1 ?side2 HM1.out).mono ?_); (case side1 => repeat (first | (with_reducible first | exact HB.out | apply below_alloc | apply pw_below_drewN | apply below_drew1) | exact HB.out)); (case side2 => exact (by (with_reducible repeat (first | apply Kd.R_alloc | apply Kd.R_drewN | apply Kd.R_drew)); exact HR1.out)); rintro e we1 ⟨rfl, hy_, hb_, hkp_⟩; refine ⟨_, rfl, ?_⟩; have hkq_ := Kept.then_ (by repeat (first | (with_reducible first | exact HKr.out | apply Kept.alloc | apply Kept.drewN | apply Kept.drew) | exact HKr.out)) hkp_ (fun _ hk_ => .inl hk_); have n0_ := Aside0.mk (Kd.H_step HH.out (fun k_ _ hn_ hlt_ => hkq_.2 k_ hlt_ (fun e_ => hn_ (HI1.out k_ e_)))); have n1_ := Aside0.mk hb_; have n2_ := Aside0.mk (HK.out.then_ hkq_ (fun k_ e_ => .inl (HN.out k_ (HI1.out k_ e_)).1)); have m1_ := Aside0.mk (Kd.R_tight rfl hy_); clear HH HB HK HKr hy_ hb_ hkp_ hkq_ hx1 HR1; have HH := n0_; have HB := n1_; have HK := n2_; clear n0_ n1_ n2_; have HR1 := m1_; clear m1_; have n0_ := Aside0.mk (Kd.H_back (okp := oki) HH.out (k75_mkM we1 w0.heap.size oki (⟨x1_1, y1⟩ : S75) (Kd.R_mono HR1.out HI1.out)) (fun _ hk_ => hk_)); clear HO_0; have HO_0 := n0_; clear n0_))
     go_roundg k1
     case measure => have := HK1.out; omega
     case rel => exact ⟨_, (t1), (wrap64 (x5_1 + 1)), (by first | rfl | (simp; done) | (simp [*]; done)), (by first | rfl | (simp; done) | (simp [*]; done)), H', ⟨by have := HK1.out; omega⟩, ⟨(by (with_reducible repeat (first | apply Kd.S_alloc | apply Kd.S_drewN | apply Kd.S_drew)); exact HO_0.out)⟩, ⟨by repeat (first | (with_reducible first | exact HK.out | apply Kept.alloc | apply Kept.drewN | apply Kept.drew) | exact HK.out)⟩, ⟨by repeat (first | (with_reducible first | exact HB.out | apply below_alloc | apply pw_below_drewN | apply below_drew1) | exact HB.out)⟩⟩
    ·rw [if_neg c4] at H
     exact absurd H (by simp)
   ·rw [if_neg c3] at H
    have c3b0 : decide (x5_1 < (x0_1.length : Int)) = false := decide_eq_false c3
    clear c3
    simp only [Option.some.injEq, Prod.mk.injEq] at H
    obtain ⟨rfl, rfl⟩ := H
    obtain ⟨Ao12, co12, eo12⟩ := Kd.S_slice HO_0.out
    subst eo12
    go_wp2
    go_ret
    exact ⟨by first | rfl | (simp [errW_none, errW_some] <;> rfl) | (simp [*, errW_none, errW_some] <;> rfl), (by (with_reducible repeat (first | apply Kd.S_alloc | apply Kd.S_drewN | apply Kd.S_drew)); exact HO_0.out), by repeat (first | (with_reducible first | exact HB.out | apply below_alloc | apply pw_below_drewN | apply below_drew1) | exact HB.out), by repeat (first | (with_reducible first | exact HK.out | apply Kept.alloc | apply Kept.drewN | apply Kept.drew) | exact HK.out)⟩
def laws_markSlotSS.l0 : Nat → List (List (S92)) → Int → Int → Option (Int × List (List (S92)))
 | 0, _, _, _ => none
 | k + 1, x0, x1, x5 => if x5 < (x0.length : Int) then (if 0 ≤ x5 then ((laws_markSlotS.f k (((rd_L5 x0 x5))) (x1)).bind fun b0 => (laws_markSlotSS.l0 k (x0.set (x5 : Int).toNat (b0.2 : List (S92))) (b0.1) (wrap64 (x5 + 1)))) else (none)) else (some (x1, x0))
def laws_markSlotSS.f (k : Nat) (l0 : List (List (S92))) (a1 : Int) : Option (Int × List (List (S92))) := laws_markSlotSS.l0 k l0 a1 0
theorem laws_markSlotSS.mono_l : ∀ k, (∀ y0 y1 y2, LeO (laws_markSlotSS.l0 k y0 y1 y2) (laws_markSlotSS.l0 (k + 1) y0 y1 y2))
 | 0 => fun _ _ _ r h => by simp [laws_markSlotSS.l0] at h
 | k + 1 => by
  have ih0 := laws_markSlotSS.mono_l k
  ·intro y0 y1 y2
   unfold laws_markSlotSS.l0
   repeat' first
   | (with_reducible exact ih0 _ _ _)
   | (with_reducible exact laws_markSlotS.mono _ _ _)
   | (with_reducible exact LeO.refl _)
   | (with_reducible exact LeO.none _)
   | (with_reducible refine LeO.ite ?_ ?_)
   | (with_reducible refine LeO.bind ?_ (fun _ => ?_))
theorem laws_markSlotSS.mono : ∀ a0 a1 k, LeO (laws_markSlotSS.f k a0 a1) (laws_markSlotSS.f (k + 1) a0 a1) := fun a0 a1 k => laws_markSlotSS.mono_l k a0 a1 0
set_option maxHeartbeats 8000000 in
set_option maxRecDepth 100000 in
theorem laws_markSlotSS.calls (k : Nat) (P0_ : Nat → Prop) (u9000_ : Value) (l0 : List (List (S92))) (a1 : Int) (r1 : Int) (r2 : List (List (S92))) (w0 w : World) (hB : Below w0.heap.size w0 w) (ho0 : Kd.S (Kd.slice 92 k92) 43 w w0.heap.size P0_ u9000_ l0) (h : laws_markSlotSS.f k l0 a1 = some (r1, r2)) :
  Calls Try.prog 16 #[u9000_, .int .i64 a1] w fun e w' => e = .returned (.int .i64 r1) ∧ Kd.S (Kd.slice 92 k92) 43 w' w0.heap.size P0_ u9000_ r2 ∧ Below w0.heap.size w0 w' ∧ Kept w w' P0_ := by
 have HO0 := Aside0.mk ho0
 have HK := Aside0.mk (Kept.refl w P0_)
 have HB := Aside0.mk hB
 clear hB
 have H' := Aside0.mk (show laws_markSlotSS.l0 k l0 a1 0 = some (r1, r2) from h)
 clear h
 go_enter Try.func16, Try.ntmps16
 go_wp2
 go_loopg [1, 5] k (fun kq v1 v5 w' => ∃ (x0_1 : List (List (S92))) (x1_1 : Int) (x5_1 : Int), v1 = .int .i64 x1_1 ∧ v5 = .int .i64 x5_1 ∧ Aside0 (laws_markSlotSS.l0 kq x0_1 x1_1 x5_1 = some (r1, r2)) ∧ Aside0 (kq ≤ k) ∧ Aside0 (Kd.S (Kd.slice 92 k92) 43 w' w0.heap.size P0_ u9000_ x0_1) ∧ Aside0 (Kept w w' P0_) ∧ Aside0 (Below w0.heap.size w0 w'))
 case atStart => exact ⟨(l0), (a1), (0), (by first | rfl | (simp; done) | (simp [*]; done)), (by first | rfl | (simp; done) | (simp [*]; done)), H', ⟨Nat.le_refl _⟩, ⟨(by (with_reducible repeat (first | apply Kd.S_alloc | apply Kd.S_drewN | apply Kd.S_drew)); exact HO0.out)⟩, ⟨by repeat (first | (with_reducible first | exact HK.out | apply Kept.alloc | apply Kept.drewN | apply Kept.drew) | exact HK.out)⟩, ⟨by repeat (first | (with_reducible first | exact HB.out | apply below_alloc | apply pw_below_drewN | apply below_drew1) | exact HB.out)⟩⟩
 case round =>
  clear H'
  try clear c2
  try clear p2
  obtain ⟨x0_1, x1_1, x5_1, rfl, rfl, HA, HK1, HO_0, HK, HB⟩ := hrel
  cases gk with
  | zero => exact absurd HA.out (by simp [laws_markSlotSS.l0])
  | succ k1 =>
   have H := HA.out
   clear HA
   simp only [laws_markSlotSS.l0] at H
   by_cases c3 : x5_1 < (x0_1.length : Int)
   ·rw [if_pos c3] at H
    have c3b0 : decide (x5_1 < (x0_1.length : Int)) = true := decide_eq_true c3
    clear c3
    by_cases c4 : 0 ≤ x5_1
    ·rw [if_pos c4] at H
     have c4b0 : decide (0 ≤ x5_1) = true := decide_eq_true c4
     clear c4
     replace H := Option.bind_eq_some_iff.mp H
     obtain ⟨⟨t0, y0⟩, hm0, H⟩ := H
     have HM0 := Aside0.mk hm0
     clear hm0
     have H' := Aside0.mk (show laws_markSlotSS.l0 k1 (x0_1.set (x5_1 : Int).toNat (y0 : List (S92))) (t0) (wrap64 (x5_1 + 1)) = some (r1, r2) from H)
     clear H
     obtain ⟨Ao7, co7, eo7⟩ := Kd.S_slice HO_0.out
     subst eo7
     have p5 : 0 ≤ (x5_1 : Int) := of_decide_eq_true (by first | (with_reducible assumption) | assumption)
     have q5 : (x5_1 : Int) < ((x0_1.length : Int) : Int) := of_decide_eq_true (by first | (with_reducible assumption) | assumption)
     obtain ⟨go5, co5, eo5, gb5, gl5, cl5, HG5⟩ := Kd.R_form (Kd.S_R HO_0.out) (by omega)
     (first | cases eo5 | (injection eo5 with ea_ en_ ec_; (first | subst ea_ | (injection ea_ with ea_; subst ea_)); subst ec_; clear en_))
     have GB5 := Aside0.mk gb5
     clear gb5 gl5 HG5
     obtain ⟨oki, ce, hcl, hM, hcc, hoki, hH⟩ := Kd.S_lend HO_0.out [] x5_1 p5 q5
     clear hcl hcc
     obtain ⟨v0, rfl, g0⟩ := hM
     obtain ⟨A0, c0, e0⟩ := Kd.R_slice g0
     subst e0
     have HI0 := Aside0.mk (show ∀ k_, some k_ = (Value.slice A0 ((rd_L5 x0_1 x5_1)).length c0).ownBlock → oki k_ from fun k_ e_ => g0.1 k_ e_.symm)
     have HR0 := Aside0.mk (Kd.R_tight rfl g0)
     have HN := Aside0.mk hoki
     have HP5 := Aside0.mk p5
     have HQ5 := Aside0.mk q5
     have HH := Aside0.mk (show Kd.H (Kd.slice 92 k92) 43 wr w0.heap.size P0_ (.slice (some ⟨go5, 0, none⟩) x0_1.length co7) x0_1 x5_1 oki [(.slice A0 ((rd_L5 x0_1 x5_1)).length c0)] from hH)
     obtain ⟨hz_, hf_⟩ := Kd.H_hole HH.out HP5.out HQ5.out
     have hx0 : (wr).cell? ⟨go5, (x5_1 : Int).toNat, none⟩ = some (.slice A0 ((rd_L5 x0_1 x5_1)).length c0) := (by have h_ := hz_ 0 _ rfl; simpa only [show ((Kd.slice 92 k92)).sz = 1 from rfl, Nat.mul_one, Nat.add_zero] using h_)
     have HKr := Aside0.mk (Kept.refl wr (fun k_ => some k_ = (Value.slice A0 ((rd_L5 x0_1 x5_1)).length c0).ownBlock))
     clear hz_ hf_
     clear g0 hoki hH
     replace p5 := eq_true p5
     replace q5 := eq_true q5
     go_wp2_with (first | ((with_reducible refine gate_callee (f := 28) rfl ?_); refine goesL_ (some 17) rfl rfl Try.func28 (by kernel_rfl) rfl #[.slice A0 ((rd_L5 x0_1 x5_1)).length c0, .int .i64 (x1_1)] rfl (by (try simp only [List.map_toArray, List.map_cons, List.map_nil]); first | done | rfl) ?_; (with_reducible refine (laws_markSlotS.calls k1 (fun k_ => some k_ = (Value.slice A0 ((rd_L5 x0_1 x5_1)).length c0).ownBlock) _ ((rd_L5 x0_1 x5_1)) (x1_1) t0 y0 w0 _ ?side1 ?side2 HM0.out).mono ?_); (case side1 => repeat (first | (with_reducible first | exact HB.out | apply below_alloc | apply pw_below_drewN | apply below_drew1) | exact HB.out)); (case side2 => exact (by (with_reducible repeat (first | apply Kd.R_alloc | apply Kd.R_drewN | apply Kd.R_drew)); exact HR0.out)); rintro e we0 ⟨rfl, hy_, hb_, hkp_⟩; refine ⟨_, rfl, ?_⟩; have hkq_ := Kept.then_ (by repeat (first | (with_reducible first | exact HKr.out | apply Kept.alloc | apply Kept.drewN | apply Kept.drew) | exact HKr.out)) hkp_ (fun _ hk_ => .inl hk_); have n0_ := Aside0.mk (Kd.H_step HH.out (fun k_ _ hn_ hlt_ => hkq_.2 k_ hlt_ (fun e_ => hn_ (HI0.out k_ e_)))); have n1_ := Aside0.mk hb_; have n2_ := Aside0.mk (HK.out.then_ hkq_ (fun k_ e_ => .inl (HN.out k_ (HI0.out k_ e_)).1)); have m0_ := Aside0.mk (Kd.R_tight rfl hy_); clear HH HB HK HKr hy_ hb_ hkp_ hkq_ hx0 HR0; have HH := n0_; have HB := n1_; have HK := n2_; clear n0_ n1_ n2_; have HR0 := m0_; clear m0_; have n0_ := Aside0.mk (Kd.H_back (okp := oki) HH.out (⟨_, rfl, Kd.R_mono HR0.out HI0.out⟩) (fun _ hk_ => hk_)); clear HO_0; have HO_0 := n0_; clear n0_))
     go_roundg k1
     case measure => have := HK1.out; omega
     case rel => exact ⟨_, (t0), (wrap64 (x5_1 + 1)), (by first | rfl | (simp; done) | (simp [*]; done)), (by first | rfl | (simp; done) | (simp [*]; done)), H', ⟨by have := HK1.out; omega⟩, ⟨(by (with_reducible repeat (first | apply Kd.S_alloc | apply Kd.S_drewN | apply Kd.S_drew)); exact HO_0.out)⟩, ⟨by repeat (first | (with_reducible first | exact HK.out | apply Kept.alloc | apply Kept.drewN | apply Kept.drew) | exact HK.out)⟩, ⟨by repeat (first | (with_reducible first | exact HB.out | apply below_alloc | apply pw_below_drewN | apply below_drew1) | exact HB.out)⟩⟩
    ·rw [if_neg c4] at H
     exact absurd H (by simp)
   ·rw [if_neg c3] at H
    have c3b0 : decide (x5_1 < (x0_1.length : Int)) = false := decide_eq_false c3
    clear c3
    simp only [Option.some.injEq, Prod.mk.injEq] at H
    obtain ⟨rfl, rfl⟩ := H
    obtain ⟨Ao12, co12, eo12⟩ := Kd.S_slice HO_0.out
    subst eo12
    go_wp2
    go_ret
    exact ⟨by first | rfl | (simp [errW_none, errW_some] <;> rfl) | (simp [*, errW_none, errW_some] <;> rfl), (by (with_reducible repeat (first | apply Kd.S_alloc | apply Kd.S_drewN | apply Kd.S_drew)); exact HO_0.out), by repeat (first | (with_reducible first | exact HB.out | apply below_alloc | apply pw_below_drewN | apply below_drew1) | exact HB.out), by repeat (first | (with_reducible first | exact HK.out | apply Kept.alloc | apply Kept.drewN | apply Kept.drew) | exact HK.out)⟩
end Go.Proofs.Ytpadhphdglbciaa.PFnExactEffectsLive
