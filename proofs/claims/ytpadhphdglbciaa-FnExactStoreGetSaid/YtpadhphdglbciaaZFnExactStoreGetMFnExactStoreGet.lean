/- The marks of nested rows, for the law 'FnExactStoreGet': what they write and what they leave (no condition). -/
import Derived.Test.YtpadhphdglbciaaZFnExactStoreGetQFnExactStoreGetx0
import Derived.Test.YtpadhphdglbciaaZFnExactStoreGetQFnExactStoreGetx1
import Derived.Test.YtpadhphdglbciaaZFnExactStoreGetQFnExactStoreGetx2
import Derived.Test.YtpadhphdglbciaaZFnExactStoreGetQFnExactStoreGetx3
import Derived.Test.YtpadhphdglbciaaZFnExactStoreGetQFnExactStoreGetx4
import Derived.Test.YtpadhphdglbciaaZFnExactStoreGetQFnExactStoreGetx5
import Derived.Test.YtpadhphdglbciaaZFnExactStoreGetQFnExactStoreGetx6
import Derived.Test.YtpadhphdglbciaaZFnExactStoreGetQFnExactStoreGetx7
import Derived.Test.YtpadhphdglbciaaZFnExactStoreGetQFnExactStoreGetx8
import Derived.Test.YtpadhphdglbciaaZFnExactStoreGetQFnExactStoreGetx9
import Derived.Test.YtpadhphdglbciaaZFnExactStoreGetQFnExactStoreGetx10
import Derived.Test.YtpadhphdglbciaaZFnExactStoreGetQFnExactStoreGetx11
import Derived.Test.YtpadhphdglbciaaZFnExactStoreGetQFnExactStoreGetx12
import Derived.Test.YtpadhphdglbciaaZFnExactStoreGetWin
namespace Go.Proofs.Ytpadhphdglbciaa.PFnExactStoreGet
open Go Go.RowKit Go.Proofs.YtpadhphdglbciaaW.PrintWords Go.Proofs.YtpadhphdglbciaaW.PrintLast Go.Proofs.YtpadhphdglbciaaW.PrintMore
attribute [local go_sem] max2_int min2_int max_two min_two max_three min_three max_four min_four
set_option linter.unusedVariables false
set_option linter.unusedSimpArgs false
def laws_markCellS.l0 : Nat → List (S89) → Int → Int → Option (Int × List (S89))
 | 0, _, _, _ => none
 | k + 1, x0, x1, x5 => if x5 < (x0.length : Int) then (if 0 ≤ x5 then ((laws_markSlotS.f k ((rd_T89 x0 x5).f0) x1).bind fun b0 => ((laws_markValueS.f k ((rd_T89 x0 x5).f1) b0.1).bind fun b1 => (laws_markCellS.l0 k (x0.set (x5 : Int).toNat (⟨b0.2, b1.2⟩ : S89)) b1.1 (wrap64 (x5 + 1))))) else (none)) else (some (x1, x0))
def laws_markCellS.f (k : Nat) (l0 : List (S89)) (a1 : Int) : Option (Int × List (S89)) := laws_markCellS.l0 k l0 a1 0
theorem laws_markCellS.mono_l : ∀ k, (∀ y0 y1 y2, LeO (laws_markCellS.l0 k y0 y1 y2) (laws_markCellS.l0 (k + 1) y0 y1 y2))
 | 0 => fun _ _ _ r h => by simp [laws_markCellS.l0] at h
 | k + 1 => by
  have ih0 := laws_markCellS.mono_l k
  ·intro y0 y1 y2
   unfold laws_markCellS.l0
   repeat' first
   | (with_reducible exact ih0 _ _ _)
   | (with_reducible exact laws_markSlotS.mono _ _ _)
   | (with_reducible exact laws_markValueS.mono _ _ _)
   | (with_reducible exact LeO.refl _)
   | (with_reducible exact LeO.none _)
   | (with_reducible refine LeO.ite ?_ ?_)
   | (with_reducible refine LeO.bind ?_ (fun _ => ?_))
theorem laws_markCellS.mono : ∀ a0 a1 k, LeO (laws_markCellS.f k a0 a1) (laws_markCellS.f (k + 1) a0 a1) := fun a0 a1 k => laws_markCellS.mono_l k a0 a1 0
theorem laws_markCellS.one {W : World} {base g n cap : Nat} {ok : Nat → Prop} {xs : List (S89)} (h : Kd.S k89 89 W base ok (.slice (some ⟨g, 0, none⟩) n cap) xs) (i : Int) (h0 : 0 ≤ i) (h1 : i < n) :
  ∃ A0 c0 A1 c1, W.cell? ⟨g, i.toNat * 2, none⟩ = some (.slice A0 (rd_T89 xs i).f0.length c0) ∧ W.cell? ⟨g, i.toNat * 2 + 1, none⟩ = some (.slice A1 (rd_T89 xs i).f1.length c1) ∧
   k92.R 92 W base (fun k => some k = (Value.slice A0 (rd_T89 xs i).f0.length c0).ownBlock) (.slice A0 (rd_T89 xs i).f0.length c0) (rd_T89 xs i).f0 ∧
   (∀ W1, Kept W W1 (fun k => some k = (Value.slice A0 (rd_T89 xs i).f0.length c0).ownBlock) → W1.cell? ⟨g, i.toNat * 2 + 1, none⟩ = some (.slice A1 (rd_T89 xs i).f1.length c1) ∧
    k99.R 99 W1 base (fun k => some k = (Value.slice A1 (rd_T89 xs i).f1.length c1).ownBlock) (.slice A1 (rd_T89 xs i).f1.length c1) (rd_T89 xs i).f1) ∧
   ∀ W1 W2 ok1 ok2 y0 y1, Kept W W1 (fun k => some k = (Value.slice A0 (rd_T89 xs i).f0.length c0).ownBlock) → k92.R 92 W1 base ok1 (.slice A0 (rd_T89 xs i).f0.length c0) y0 →
    Kept W1 W2 (fun k => some k = (Value.slice A1 (rd_T89 xs i).f1.length c1).ownBlock) → k99.R 99 W2 base ok2 (.slice A1 (rd_T89 xs i).f1.length c1) y1 →
    Kd.S k89 89 W2 base ok (.slice (some ⟨g, 0, none⟩) n cap) (xs.set i.toNat (⟨y0, y1⟩ : S89)) ∧ Kept W W2 ok := by
 obtain ⟨oki, c, hcl, hM, hcc, hoki, hH⟩ := Kd.S_lend h z89 i h0 h1
 obtain ⟨v0, v1, rfl, hR0, hR1⟩ := k89_openM hM
 obtain ⟨A0, c0, rfl⟩ := Kd.R_slice hR0
 obtain ⟨A1, c1, rfl⟩ := Kd.R_slice hR1
 have hx0 : W.cell? ⟨g, i.toNat * 2, none⟩ = some (.slice A0 (rd_T89 xs i).f0.length c0) := hcc 0 _ rfl
 have hx1 : W.cell? ⟨g, i.toNat * 2 + 1, none⟩ = some (.slice A1 (rd_T89 xs i).f1.length c1) := hcc 1 _ rfl
 have hne : ∀ k, some k = (Value.slice A1 (rd_T89 xs i).f1.length c1).ownBlock → ¬ some k = (Value.slice A0 (rd_T89 xs i).f0.length c0).ownBlock := fun k hk hk0 => by
  obtain ⟨q0, e0⟩ := Kd.R_typed hR0 k hk0.symm
  obtain ⟨q1, e1⟩ := Kd.R_typed hR1 k hk.symm
  rw [e0] at e1
  injection e1 with e1
  injection e1 with _ e1
  exact absurd e1 (by decide)
 refine ⟨A0, c0, A1, c1, hx0, hx1, Kd.R_tight rfl hR0, fun W1 hk => ⟨cell_kept hx1 hk (fun he => (hoki g (hR0.1 g he.symm)).2 rfl), Kd.R_kept (Kd.R_tight rfl hR1) hk hne⟩, fun W1 W2 ok1 ok2 y0 y1 hk1 hy0 hk2 hy1 => ?_⟩
 have hK : Kept W W2 oki := (hk1.mono (fun k e => hR0.1 k e.symm)).then_ hk2 (fun k e => .inl (hR1.1 k e.symm))
 have hy0' := Kd.R_kept (Kd.R_tight rfl hy0) hk2 (fun k e0 e1 => hne k e1 e0)
 refine ⟨Kd.H_back (okp := oki) (Kd.H_step hH (fun k _ hn hlt => hK.2 k hlt hn)) ?_ (fun _ hk => hk), hK.mono (fun k hk => (hoki k hk).1)⟩
 exact k89_mkM W2 base oki (⟨y0, y1⟩ : S89) (Kd.R_mono hy0' (fun k e => hR0.1 k e.symm)) (Kd.R_mono (Kd.R_tight rfl hy1) (fun k e => hR1.1 k e.symm))
set_option maxHeartbeats 8000000 in
set_option maxRecDepth 100000 in
theorem laws_markCellS.calls (k : Nat) (P0_ : Nat → Prop) (u9000_ : Value) (l0 : List (S89)) (a1 : Int) (r1 : Int) (r2 : List (S89)) (w0 w : World) (hB : Below w0.heap.size w0 w) (ho0 : Kd.S k89 89 w w0.heap.size P0_ u9000_ l0) (h : laws_markCellS.f k l0 a1 = some (r1, r2)) :
  Calls Try.prog 27 #[u9000_, .int .i64 a1] w fun e w' => e = .returned (.int .i64 r1) ∧ Kd.S k89 89 w' w0.heap.size P0_ u9000_ r2 ∧ Below w0.heap.size w0 w' ∧ Kept w w' P0_ := by
 have HO0 := Aside0.mk ho0
 have HK := Aside0.mk (Kept.refl w P0_)
 have HB := Aside0.mk hB
 clear hB
 have H' := Aside0.mk (show laws_markCellS.l0 k l0 a1 0 = some (r1, r2) from h)
 clear h
 go_enter Try.func27, Try.ntmps27
 go_wp2
 go_loopg [1, 5] k (fun kq v1 v5 w' => ∃ (x0_1 : List (S89)) (x1_1 : Int) (x5_1 : Int), v1 = .int .i64 x1_1 ∧ v5 = .int .i64 x5_1 ∧ Aside0 (laws_markCellS.l0 kq x0_1 x1_1 x5_1 = some (r1, r2)) ∧ Aside0 (kq ≤ k) ∧ Aside0 (Kd.S k89 89 w' w0.heap.size P0_ u9000_ x0_1) ∧ Aside0 (Kept w w' P0_) ∧ Aside0 (Below w0.heap.size w0 w'))
 case atStart => exact ⟨(l0), (a1), (0), (by first | rfl | (simp; done) | (simp [*]; done)), (by first | rfl | (simp; done) | (simp [*]; done)), H', ⟨Nat.le_refl _⟩, ⟨by (with_reducible repeat (first | apply Kd.S_alloc | apply Kd.S_drewN | apply Kd.S_drew)); exact HO0.out⟩, ⟨by repeat (first | (with_reducible first | exact HK.out | apply Kept.alloc | apply Kept.drewN | apply Kept.drew) | exact HK.out)⟩, ⟨by repeat (first | (with_reducible first | exact HB.out | apply below_alloc | apply pw_below_drewN | apply below_drew1) | exact HB.out)⟩⟩
 case round =>
  clear H'
  try clear c2
  try clear p2
  obtain ⟨x0_1, x1_1, x5_1, rfl, rfl, HA, HK1, HO_0, HK, HB⟩ := hrel
  cases gk with
  | zero => exact absurd HA.out (by simp [laws_markCellS.l0])
  | succ k1 =>
   have H := HA.out
   clear HA
   simp only [laws_markCellS.l0] at H
   by_cases c3 : x5_1 < (x0_1.length : Int)
   ·rw [if_pos c3] at H
    have c3b0 : decide (x5_1 < (x0_1.length : Int)) = true := decide_eq_true c3
    clear c3
    by_cases c4 : 0 ≤ x5_1
    ·rw [if_pos c4] at H
     have c4b0 : decide (0 ≤ x5_1) = true := decide_eq_true c4
     clear c4
     replace H := Option.bind_eq_some_iff.mp H
     obtain ⟨⟨t0, y0⟩, A50, H⟩ := H
     replace H := Option.bind_eq_some_iff.mp H
     obtain ⟨⟨t1, y1⟩, A60, H⟩ := H
     have A5 := Aside0.mk A50
     have A6 := Aside0.mk A60
     clear A50 A60
     have H' := Aside0.mk (show laws_markCellS.l0 k1 (x0_1.set (x5_1 : Int).toNat (⟨y0, y1⟩ : S89)) t1 (wrap64 (x5_1 + 1)) = some (r1, r2) from H)
     clear H
     obtain ⟨Ao7, co7, eo7⟩ := Kd.S_slice HO_0.out
     subst eo7
     have p5 : 0 ≤ (x5_1 : Int) := of_decide_eq_true (by first | (with_reducible assumption) | assumption)
     have q5 : (x5_1 : Int) < ((x0_1.length : Int) : Int) := of_decide_eq_true (by first | (with_reducible assumption) | assumption)
     obtain ⟨go5, co5, eo5, gb5, gl5, cl5, HG5⟩ := Kd.R_form (Kd.S_R HO_0.out) (by omega)
     (first | cases eo5 | (injection eo5 with ea_ en_ ec_; (first | subst ea_ | (injection ea_ with ea_; subst ea_)); subst ec_; clear en_))
     clear gb5 gl5 HG5
     obtain ⟨A0, c0, A1, c1, hx5_0, hx5_1, hr0, hs1, hs2⟩ := laws_markCellS.one HO_0.out x5_1 p5 q5
     have HR0 := Aside0.mk hr0
     have HS1 := Aside0.mk hs1
     have HS2 := Aside0.mk hs2
     have HKr := Aside0.mk (Kept.refl wr (fun k => some k = (Value.slice A0 (rd_T89 x0_1 x5_1).f0.length c0).ownBlock))
     clear hr0 hs1 hs2
     replace p5 := eq_true p5
     replace q5 := eq_true q5
     go_wp2_with (first | ((with_reducible refine gate_callee (f := 28) rfl ?_); refine goesL_ (some 18) rfl rfl Try.func28 (by kernel_rfl) rfl #[.slice A0 ((rd_T89 x0_1 x5_1).f0).length c0, .int .i64 x1_1] rfl (by (try simp only [List.map_toArray, List.map_cons, List.map_nil]); first | done | rfl) ?_; (with_reducible refine (laws_markSlotS.calls k1 (fun k => some k = (Value.slice A0 (rd_T89 x0_1 x5_1).f0.length c0).ownBlock) _ ((rd_T89 x0_1 x5_1).f0) x1_1 t0 y0 w0 _ ?side1 ?side2 A5.out).mono ?_); (case side1 => repeat (first | (with_reducible first | exact HB.out | apply below_alloc | apply pw_below_drewN | apply below_drew1) | exact HB.out)); (case side2 => (with_reducible repeat (first | apply Kd.R_alloc | apply Kd.R_drewN | apply Kd.R_drew)); exact HR0.out); rintro e w7 ⟨rfl, hy0, hb, hkp⟩; refine ⟨_, rfl, ?_⟩; have HKa := Aside0.mk (Kept.then_ (by repeat (first | (with_reducible first | exact HKr.out | apply Kept.alloc | apply Kept.drewN | apply Kept.drew) | exact HKr.out)) hkp (fun _ hk => .inl hk)); have HY0 := Aside0.mk hy0; clear HB; have HB := Aside0.mk hb; clear hb hkp hy0; obtain ⟨hz_, hr1_⟩ := HS1.out w7 HKa.out; have hx7 := hz_; clear hz_; have HR1 := Aside0.mk hr1_; clear hr1_; have HKs := Aside0.mk (Kept.refl w7 (fun k => some k = (Value.slice A1 (rd_T89 x0_1 x5_1).f1.length c1).ownBlock))) | ((with_reducible refine gate_callee (f := 29) rfl ?_); refine goesL_ (some 25) rfl rfl Try.func29 (by kernel_rfl) rfl #[.slice A1 ((rd_T89 x0_1 x5_1).f1).length c1, .int .i64 t0] rfl (by (try simp only [List.map_toArray, List.map_cons, List.map_nil]); first | done | rfl) ?_; (with_reducible refine (laws_markValueS.calls k1 (fun k => some k = (Value.slice A1 (rd_T89 x0_1 x5_1).f1.length c1).ownBlock) _ ((rd_T89 x0_1 x5_1).f1) t0 t1 y1 w0 _ ?side1 ?side2 A6.out).mono ?_); (case side1 => repeat (first | (with_reducible first | exact HB.out | apply below_alloc | apply pw_below_drewN | apply below_drew1) | exact HB.out)); (case side2 => (with_reducible repeat (first | apply Kd.R_alloc | apply Kd.R_drewN | apply Kd.R_drew)); exact HR1.out); rintro e w8 ⟨rfl, hy1, hb, hkp⟩; refine ⟨_, rfl, ?_⟩; have HKb := Aside0.mk (Kept.then_ (by repeat (first | (with_reducible first | exact HKs.out | apply Kept.alloc | apply Kept.drewN | apply Kept.drew) | exact HKs.out)) hkp (fun _ hk => .inl hk)); clear HB; have HB := Aside0.mk hb; obtain ⟨ho_, hk_⟩ := HS2.out w7 w8 _ _ y0 y1 HKa.out HY0.out HKb.out hy1; have n0_ := Aside0.mk ho_; have n1_ := Aside0.mk (HK.out.then_ hk_ (fun _ hk => .inl hk)); clear HO_0 HK hb hkp hy1 ho_ hk_; have HO_0 := n0_; have HK := n1_; clear n0_ n1_))
     go_roundg k1
     case measure => have := HK1.out; omega
     case rel => exact ⟨_, t1, (wrap64 (x5_1 + 1)), (by first | rfl | (simp; done) | (simp [*]; done)), (by first | rfl | (simp; done) | (simp [*]; done)), H', ⟨by have := HK1.out; omega⟩, ⟨by (with_reducible repeat (first | apply Kd.S_alloc | apply Kd.S_drewN | apply Kd.S_drew)); exact HO_0.out⟩, ⟨by repeat (first | (with_reducible first | exact HK.out | apply Kept.alloc | apply Kept.drewN | apply Kept.drew) | exact HK.out)⟩, ⟨by repeat (first | (with_reducible first | exact HB.out | apply below_alloc | apply pw_below_drewN | apply below_drew1) | exact HB.out)⟩⟩
    ·rw [if_neg c4] at H
     exact absurd H (by simp)
   ·rw [if_neg c3] at H
    have c3b0 : decide (x5_1 < (x0_1.length : Int)) = false := decide_eq_false c3
    clear c3
    simp only [Option.some.injEq, Prod.mk.injEq] at H
    obtain ⟨rfl, rfl⟩ := H
    obtain ⟨Ao12, co12, eo12⟩ := Kd.S_slice HO_0.out
    subst eo12
    go_wp2
    go_ret
    exact ⟨by first | rfl | (simp [errW_none, errW_some] <;> rfl) | (simp [*, errW_none, errW_some] <;> rfl), by (with_reducible repeat (first | apply Kd.S_alloc | apply Kd.S_drewN | apply Kd.S_drew)); exact HO_0.out, by repeat (first | (with_reducible first | exact HB.out | apply below_alloc | apply pw_below_drewN | apply below_drew1) | exact HB.out), by repeat (first | (with_reducible first | exact HK.out | apply Kept.alloc | apply Kept.drewN | apply Kept.drew) | exact HK.out)⟩
end Go.Proofs.Ytpadhphdglbciaa.PFnExactStoreGet
