/- Walks (lines of the print; no condition). -/
import Derived.Test.YtmgdjmeoljepgaaZFnProgBelowQFnProgBelowx0
namespace Go.Proofs.Ytmgdjmeoljepgaa.PFnProgBelow
open Go.RowKit Go.Proofs.YtmgdjmeoljepgaaW.PrintWords Go.Proofs.YtmgdjmeoljepgaaW.PrintLast Go.Proofs.YtmgdjmeoljepgaaW.PrintMore
attribute [local go_sem] max2_int min2_int max_two min_two max_three min_three max_four min_four
set_option linter.unusedVariables false
set_option linter.unusedSimpArgs false
set_option maxHeartbeats 8000000
set_option maxRecDepth 100000
def IsS52 (w0 W : World) (g : Nat) (f0 : List Int) (f1 : Int) (f2 : Int) : Prop:=∃ A0 c0,W.heap[g]? = some (.cells #[.slice A0 f0.length c0,.int .i64 f1,.int .i64 f2] 52 (0,0)) ∧ w0.heap.size ≤ g ∧ Kd.C (Kd.int .u8) w0 A0 f0.length f0
theorem IsS52.grown {w0 W : World} {g : Nat} {f0 : List Int} {f1 : Int} {f2 : Int} {W1 : World} {row : Option Nat} (h : IsS52 w0 W g f0 f1 f2) (hw : W.grownBy W1 row) (hne : some g ≠ row) : IsS52 w0 W1 g f0 f1 f2:=by
 obtain ⟨A0,c0,hb,hg,aA⟩:=h
 exact ⟨A0,c0,blk_grown hb hw hne,hg,aA⟩
theorem IsS52.own_neN {w0 W : World} {g : Nat} {f0 : List Int} {f1 : Int} {f2 : Int} {α : Type} {d : Kd α} {e : Nat} {base : Nat} {ok : Nat → Prop} {v : Value} {xs : List α} (h : IsS52 w0 W g f0 f1 f2) (ho : Kd.N d e W base ok v xs) (ht : e ≠ 52) : some g ≠ v.ownBlock:=by
 obtain ⟨A0,c0,hb,hg,aA⟩:=h
 exact Kd.N_ne ho hb ht
theorem IsS52.fresh {w0 W : World} {g : Nat} {f0 : List Int} {f1 : Int} {f2 : Int} (h : IsS52 w0 W g f0 f1 f2) : ∀ k,W.heap.size ≤ k → k ≠ g:=by
 obtain ⟨A0,c0,hb,hg,aA⟩:=h
 exact Kd.freshB hb
theorem IsS52.kept {w0 W : World} {g : Nat} {f0 : List Int} {f1 : Int} {f2 : Int} {W1 : World} {S : Nat → Prop} (h : IsS52 w0 W g f0 f1 f2) (hk : Kept W W1 S) (hne : ¬ S g) : IsS52 w0 W1 g f0 f1 f2:=by
 obtain ⟨A0,c0,hb,hg,aA⟩:=h
 exact ⟨A0,c0,blk_kept hb hk hne,hg,aA⟩
theorem IsS52.below {w0 W : World} {g : Nat} {f0 : List Int} {f1 : Int} {f2 : Int} {W1 : World} (h : IsS52 w0 W g f0 f1 f2) (hw : Below W.heap.size W W1) : IsS52 w0 W1 g f0 f1 f2:=h.grown (grown_of_below hw none) (by simp)
theorem IsS52.alloc {w0 W : World} {g : Nat} {f0 : List Int} {f1 : Int} {f2 : Int} (h : IsS52 w0 W g f0 f1 f2) (o : Obj) : IsS52 w0 (W.alloc o) g f0 f1 f2:=h.below (below_alloc (Below.refl _ _) o)
theorem IsS52.drewN {w0 W : World} {g : Nat} {f0 : List Int} {f1 : Int} {f2 : Int} (h : IsS52 w0 W g f0 f1 f2) (m : Nat) : IsS52 w0 (W.drewN m) g f0 f1 f2:=h
theorem IsS52.drew {w0 W : World} {g : Nat} {f0 : List Int} {f1 : Int} {f2 : Int} (h : IsS52 w0 W g f0 f1 f2) : IsS52 w0 W.drew g f0 f1 f2:=h
theorem IsS52.at_ {w0 W : World} {g : Nat} {f0 : List Int} {f1 : Int} {f2 : Int} {w' : World} {m : Nat} (hq : W.drewN m = w') (h : IsS52 w0 W g f0 f1 f2) : IsS52 w0 w' g f0 f1 f2:=by subst hq;exact IsS52.drewN h m
theorem IsS52.apart {w0 W : World} {g : Nat} {f0 : List Int} {f1 : Int} {f2 : Int} {α : Type} {d : Kd α} {e : Nat} {base : Nat} {ok : Nat → Prop} {v : Value} {xs : List α} (h : IsS52 w0 W g f0 f1 f2) (ho : d.R e W base ok v xs) (ht : ∀ q,q ∈ e :: d.E → q ≠ 52) : d.R e W base (fun k => ok k ∧ k ≠ g) v xs:=by
 obtain ⟨A0,c0,hb,hg,aA⟩:=h
 exact Kd.R_types ho hb ht
theorem IsS52.own_ne {w0 W : World} {g : Nat} {f0 : List Int} {f1 : Int} {f2 : Int} {α : Type} {d : Kd α} {e : Nat} {base : Nat} {ok : Nat → Prop} {v : Value} {xs : List α} (h : IsS52 w0 W g f0 f1 f2) (ho : d.R e W base ok v xs) (ht : e ≠ 52) : some g ≠ v.ownBlock:=by
 obtain ⟨A0,c0,hb,hg,aA⟩:=h
 exact Kd.R_ne ho hb ht
theorem IsS52.apartQ {w0 W : World} {g : Nat} {f0 : List Int} {f1 : Int} {f2 : Int} {α : Type} {d : Kd α} {e : Nat} {base : Nat} {ok : Nat → Prop} {v : Value} {xs : List α} (h : IsS52 w0 W g f0 f1 f2) (ho : d.Q e W base ok v xs) (ht : ∀ q,q ∈ e :: d.E → q ≠ 52) : d.Q e W base (fun k => ok k ∧ k ≠ g) v xs:=by
 obtain ⟨A0,c0,hb,hg,aA⟩:=h
 exact Kd.Q_types ho hb ht
theorem IsS52.own_neQ {w0 W : World} {g : Nat} {f0 : List Int} {f1 : Int} {f2 : Int} {α : Type} {d : Kd α} {e : Nat} {base : Nat} {ok : Nat → Prop} {v : Value} {xs : List α} (h : IsS52 w0 W g f0 f1 f2) (ho : d.Q e W base ok v xs) (ht : e ≠ 52) : some g ≠ v.ownBlock:=by
 obtain ⟨A0,c0,hb,hg,aA⟩:=h
 exact Kd.Q_ne ho hb ht
theorem IsS52.apartS {w0 W : World} {g : Nat} {f0 : List Int} {f1 : Int} {f2 : Int} {α : Type} {d : Kd α} {e : Nat} {base : Nat} {ok : Nat → Prop} {v : Value} {xs : List α} (h : IsS52 w0 W g f0 f1 f2) (ho : d.S e W base ok v xs) (ht : ∀ q,q ∈ e :: d.E → q ≠ 52) : d.S e W base (fun k => ok k ∧ k ≠ g) v xs:=by
 obtain ⟨A0,c0,hb,hg,aA⟩:=h
 exact Kd.S_types ho hb ht
theorem IsS52.own_neS {w0 W : World} {g : Nat} {f0 : List Int} {f1 : Int} {f2 : Int} {α : Type} {d : Kd α} {e : Nat} {base : Nat} {ok : Nat → Prop} {v : Value} {xs : List α} (h : IsS52 w0 W g f0 f1 f2) (ho : d.S e W base ok v xs) (ht : e ≠ 52) : some g ≠ v.ownBlock:=by
 obtain ⟨A0,c0,hb,hg,aA⟩:=h
 exact Kd.S_ne ho hb ht
theorem IsS52.lt {w0 W : World} {g : Nat} {f0 : List Int} {f1 : Int} {f2 : Int} (h : IsS52 w0 W g f0 f1 f2) : g < W.heap.size:=by
 obtain ⟨A0,c0,hb,hg,aA⟩:=h
 exact blk_lt hb
theorem IsS52.ge {w0 W : World} {g : Nat} {f0 : List Int} {f1 : Int} {f2 : Int} (h : IsS52 w0 W g f0 f1 f2) : w0.heap.size ≤ g:=by
 obtain ⟨A0,c0,hb,hg,aA⟩:=h
 exact hg
theorem IsS52.ne_blk {w0 W : World} {g : Nat} {f0 : List Int} {f1 : Int} {f2 : Int} {a : Nat} {cs : Array Value} {t : TypeId} {fr : Nat × Nat} (h : IsS52 w0 W g f0 f1 f2) (aA : W.heap[a]? = some (.cells cs t fr)) (ht : t ≠ 52) : g ≠ a:=by
 obtain ⟨A0,c0,hb,hg,aC⟩:=h
 rintro rfl
 rw [hb] at aA;injection aA with aA;injection aA with _ aB
 exact ht aB.symm
theorem IsS52.far {w0 W : World} {g : Nat} {f0 : List Int} {f1 : Int} {f2 : Int} {p : Addr} (h : IsS52 w0 W g f0 f1 f2) (hne : g ≠ p.block) (u : Value) : IsS52 w0 (W.setCell p u) g f0 f1 f2:=by
 obtain ⟨A0,c0,hb,hg,aA⟩:=h
 exact ⟨A0,c0,blk_far hb hne u,hg,aA⟩
theorem cellS52_0 {W : World} {g : Nat} {A0 : Option Addr} {c0 : Nat} {f0 : List Int} {f1 : Int} {f2 : Int} (h : W.heap[g]? = some (.cells #[.slice A0 f0.length c0,.int .i64 f1,.int .i64 f2] 52 (0,0))) : W.cell? ⟨g,0,none⟩ = some (.slice A0 f0.length c0):=(bc h 0).trans rfl
theorem cellS52_1 {W : World} {g : Nat} {A0 : Option Addr} {c0 : Nat} {f0 : List Int} {f1 : Int} {f2 : Int} (h : W.heap[g]? = some (.cells #[.slice A0 f0.length c0,.int .i64 f1,.int .i64 f2] 52 (0,0))) : W.cell? ⟨g,1,none⟩ = some (.int .i64 f1):=(bc h 1).trans rfl
theorem IsS52.set_1 {w0 W : World} {g : Nat} {f0 : List Int} {f1 : Int} {f2 : Int} (h : IsS52 w0 W g f0 f1 f2) (x : Int) : IsS52 w0 (W.setCell ⟨g,1,none⟩ (.int .i64 x)) g f0 x f2:=by
 obtain ⟨A0,c0,hb,hg,aA⟩:=h
 exact ⟨A0,c0,by simpa using blk_set hb 1 (.int .i64 x),hg,aA⟩
theorem cellS52_2 {W : World} {g : Nat} {A0 : Option Addr} {c0 : Nat} {f0 : List Int} {f1 : Int} {f2 : Int} (h : W.heap[g]? = some (.cells #[.slice A0 f0.length c0,.int .i64 f1,.int .i64 f2] 52 (0,0))) : W.cell? ⟨g,2,none⟩ = some (.int .i64 f2):=(bc h 2).trans rfl
theorem IsS52.set_2 {w0 W : World} {g : Nat} {f0 : List Int} {f1 : Int} {f2 : Int} (h : IsS52 w0 W g f0 f1 f2) (x : Int) : IsS52 w0 (W.setCell ⟨g,2,none⟩ (.int .i64 x)) g f0 f1 x:=by
 obtain ⟨A0,c0,hb,hg,aA⟩:=h
 exact ⟨A0,c0,by simpa using blk_set hb 2 (.int .i64 x),hg,aA⟩
theorem IsS52.new (w0 W : World) (A0 : Option Addr) (c0 : Nat) (f0 : List Int) (f1 : Int) (f2 : Int) (hB : Below w0.heap.size w0 W) (aA : Kd.C (Kd.int .u8) w0 A0 f0.length f0) : IsS52 w0 (W.alloc (.cells #[.slice A0 f0.length c0,.int .i64 f1,.int .i64 f2] 52)) W.heap.size f0 f1 f2:=⟨A0,c0,by simpa using heap_alloc_new W _,hB.size,aA⟩
def spec_newSource.f (l0 : List Int) : Option (List Int × Int × Int):=some (l0,0,4000)
theorem spec_newSource.calls (A0 : Option Addr) (c0 : Nat) (l0 : List Int) (r1 : List Int) (r2 : Int) (r3 : Int) (w0 w : World) (hB : Below w0.heap.size w0 w) (aE : Kd.C (Kd.int .u8) w0 A0 l0.length l0) (hc0 : l0.length ≤ c0) (h : spec_newSource.f l0 = some (r1,r2,r3)) :
  Calls Try.prog 9 #[.slice A0 l0.length c0] w fun e w' => ∃ g_ : Nat,e = .returned (.pointer (some ⟨g_,0,none⟩)) ∧ IsS52 w0 w' g_ r1 r2 r3 ∧ Below w0.heap.size w0 w' ∧ Below w.heap.size w w':=by
 have aF:=Try.underlying52;have aG:=A_ aE;have aI:=A_ hc0;clear aE hc0;have HBW:=A_ (Below.refl w.heap.size w);have aH:=A_ hB.size;have HB:=A_ hB;clear hB;have H:=h;unfold spec_newSource.f at H;clear h;simp only [Option.some.injEq,Prod.mk.injEq] at H;obtain ⟨rfl,rfl,rfl⟩:=H
 go_enter Try.func9,Try.ntmps9
 go_wp2_with (first | ((with_reducible refine gate_dst (N:=5) rfl ?_);refine be (cs:=#[.slice A0 l0.length c0,.int .i64 0,.int .i64 4000]) (t:=52) ?_;intro aA hg w2 hbox hb;replace HB:=A_ (bst Z2 hb);have aC:=A_ hbox;have aD:=A_ (gl hg (bz (by repeat (first | (with_reducible first | exact HBW.out | apply below_alloc | apply pw_below_drewN | apply below_drew1) | exact HBW.out))));have aB:=A_ ((Nat.le_trans aH.out (by rw [hg];exact (bz (by repeat (first | (with_reducible first | exact HBW.out | apply below_alloc | apply pw_below_drewN | apply below_drew1) | exact HBW.out))) : w.heap.size ≤ aA) : w0.heap.size ≤ aA));replace HBW:=A_ (bst HBW.out hb);clear hb hbox hg))
 go_ret
 exact ⟨_,rfl,(show IsS52 w0 _ aA l0 0 4000 from ⟨_,_,Z1 aC.out,aB.out,aG.out⟩),Z3 aB.out,by repeat (first | (with_reducible first | exact HBW.out | apply below_alloc | apply pw_below_drewN | apply below_drew1 | refine below_set ?_ aD.out) | exact HBW.out)⟩
def spec_source_pick.j0 : Nat → Int → Bool → List Int → Int → Int → Option (Int × Int × Int)
 | 0,_,_,_,_,_ => none
 | k + 1,x1,aD,aA,aB,aC => if aD = true then (some (0,aB,aC)) else (if (aA.length : Int) = 0 then (none) else (if 0 ≤ (Int.tmod aB (aA.length : Int)) then (if (Int.tmod aB (aA.length : Int)) < (aA.length : Int) then (if x1 > 256 then (if 0 ≤ (Int.tmod (wrap64 (aB + 1)) (aA.length : Int)) then (if (Int.tmod (wrap64 (aB + 1)) (aA.length : Int)) < (aA.length : Int) then (if x1 = 0 then (none) else (some (Int.tmod (wrap64 ((wrap64 ((wrap64 ((wrap64 (rd aA (Int.tmod aB (aA.length : Int)))) + (wrap64 ((wrap64 (Int.tdiv aB (aA.length : Int))) * 31)))) * 256)) + (wrap64 (rd aA (Int.tmod (wrap64 (aB + 1)) (aA.length : Int)))))) x1,wrap64 ((wrap64 (aB + 1)) + 1),wrap64 (aC - 1)))) else (none)) else (none)) else (if x1 = 0 then (none) else (some (Int.tmod (wrap64 ((wrap64 (rd aA (Int.tmod aB (aA.length : Int)))) + (wrap64 ((wrap64 (Int.tdiv aB (aA.length : Int))) * 31)))) x1,wrap64 (aB + 1),wrap64 (aC - 1))))) else (none)) else (none)))
def spec_source_pick.f (k : Nat) (aA : List Int) (aC : Int) (aB : Int) (a1 : Int) : Option (Int × Int × Int):=if a1 ≤ 1 then (spec_source_pick.j0 k a1 true aA aC aB) else (if aB ≤ 0 then (spec_source_pick.j0 k a1 true aA aC aB) else (spec_source_pick.j0 k a1 ((aA.length : Int) == 0) aA aC aB))
theorem spec_source_pick.mono_l : ∀ k,(∀ y0 y1 y2 y3 y4,LeO (spec_source_pick.j0 k y0 y1 y2 y3 y4) (spec_source_pick.j0 (k + 1) y0 y1 y2 y3 y4))
 | 0 => fun _ _ _ _ _ r h => by simp [spec_source_pick.j0] at h
 | k + 1 => by
  have aA:=spec_source_pick.mono_l k
  ·intro y0 y1 y2 y3 y4
   unfold spec_source_pick.j0
   repeat' first
   | (with_reducible exact aA _ _ _ _ _)
   | (with_reducible exact LeO.refl _)
   | (with_reducible exact LeO.none _)
   | (with_reducible refine LeO.ite ?_ ?_)
   | (with_reducible refine LeO.bind ?_ (fun _ => ?_))
   | exact aA _ _ _ _ _
   | exact LeO.none _
   | refine LeO.ite ?_ ?_
   | refine LeO.bind ?_ (fun _ => ?_)
theorem spec_source_pick.mono : ∀ a0 a1 a2 a3 k,LeO (spec_source_pick.f k a0 a1 a2 a3) (spec_source_pick.f (k + 1) a0 a1 a2 a3):=by
 intro a0 a1 a2 a3 k
 have aA:=spec_source_pick.mono_l k;unfold spec_source_pick.f
 repeat' first
   | (with_reducible exact aA _ _ _ _ _)
   | (with_reducible exact LeO.refl _)
   | (with_reducible exact LeO.none _)
   | (with_reducible refine LeO.ite ?_ ?_)
   | (with_reducible refine LeO.bind ?_ (fun _ => ?_))
   | exact aA _ _ _ _ _
   | exact LeO.none _
   | refine LeO.ite ?_ ?_
   | refine LeO.bind ?_ (fun _ => ?_)
theorem spec_source_pick.calls (k : Nat) (g : Nat) (aD : List Int) (aK : Int) (aE : Int) (a1 : Int) (r1 : Int) (r2 : Int) (r3 : Int) (w0 w : World) (hI : IsS52 w0 w g aD aK aE) (hB : Below w0.heap.size w0 w) (h : spec_source_pick.f k aD aK aE a1 = some (r1,r2,r3)) :
  Calls Try.prog 12 #[.pointer (some ⟨g,0,none⟩),.int .i64 a1] w fun e w' => e = .returned (.int .i64 r1) ∧ IsS52 w0 w' g aD r2 r3 ∧ Below w0.heap.size w0 w' ∧ KeepBut w w' g none:=by
 have HI0:=A_ hI;have HK:=A_ (KeepBut.refl w g none);have HL:=A_ hB.size;clear hI;have cR:=A_ hB.size;have HB:=A_ hB;clear hB;have H:=h;unfold spec_source_pick.f at H;clear h;have bU:=A_ H;clear H
 go_enter Try.func12,Try.ntmps12
 go_upto_region 1 with (fail)
 repeat (go_quiet (fail);go_upto_region 1 with (fail))
 go_cut [22] (fun cN wc => ∃ (kq : Nat) (aO : Bool),cN = .bool aO ∧ Aside0 (spec_source_pick.j0 kq a1 aO aD aK aE = some (r1,r2,r3)) ∧ Aside0 (kq ≤ k) ∧ Aside0 (IsS52 w0 wc g aD aK aE) ∧ Aside0 (KeepBut w wc g none) ∧ Aside0 (Below w0.heap.size w0 wc))
 case first =>
  have H:=bU.out;clear bU
  by_cases c4 : a1 ≤ 1
  ·rw [if_pos c4] at H
   have aT:=dt c4;clear c4;(first | rw [aT] | (simp only [i64_w,i32_w];rw [aT]) | skip);have H':=A_ H;clear H
   go_wp2
   repeat (go_quiet (fail);try go_wp2)
   go_meet
   case rel => exact ⟨_,(true),Z22,H',⟨Z47⟩,⟨Z7 HI0.out⟩,⟨Z5⟩,⟨Z10 HI0.out⟩⟩
  ·rw [if_neg c4] at H
   have aT:=df c4;clear c4;(first | rw [aT] | (simp only [i64_w,i32_w];rw [aT]) | skip)
   by_cases c5 : aE ≤ 0
   ·rw [if_pos c5] at H
    have bV:=dt c5;clear c5;have H':=A_ H;clear H;obtain ⟨bW,bX,aR,bY,bZ⟩:=HI0.out;have b0:=cellS52_0 aR;have b1:=cellS52_1 aR;have b2:=cellS52_2 aR;have b3:=blk_frozen aR 1;have b4:=blk_frozen aR 2;clear aR bY
    go_wp2
    repeat (go_quiet (fail);try go_wp2)
    go_meet
    case rel => exact ⟨_,(true),Z22,H',⟨Z47⟩,⟨Z7 HI0.out⟩,⟨Z5⟩,⟨Z10 HI0.out⟩⟩
   ·rw [if_neg c5] at H
    have bV:=df c5;clear c5;have H':=A_ H;clear H;obtain ⟨b5,b6,aS,b7,b8⟩:=HI0.out;have b9:=cellS52_0 aS;have cA:=cellS52_1 aS;have cB:=cellS52_2 aS;have cC:=blk_frozen aS 1;have cD:=blk_frozen aS 2;clear aS b7
    go_wp2
    repeat (go_quiet (fail);try go_wp2)
    go_meet
    case rel => exact ⟨_,(((aD.length : Int) == 0)),Z22,H',⟨Z47⟩,⟨Z7 HI0.out⟩,⟨Z5⟩,⟨Z10 HI0.out⟩⟩
 case rest =>
  clear bU;obtain ⟨kq,aO,rfl,HA,cS,HI0,HK,HB⟩:=hcut
  cases kq with
  | zero => exact absurd HA.out (by simp [spec_source_pick.j0])
  | succ cT =>
   have H:=HA.out;clear HA;simp only [spec_source_pick.j0] at H
   by_cases c8 : aO = true
   ·subst c8
    rw [if_pos rfl] at H;simp only [Option.some.injEq,Prod.mk.injEq] at H;obtain ⟨rfl,rfl,rfl⟩:=H
    go_wp2
    repeat (go_quiet (fail);try go_wp2)
    go_ret
    exact ⟨Z12,Z7 HI0.out,Z10 HI0.out,Z5⟩
   ·replace c8:=Bool.eq_false_iff.mpr c8
    subst c8;rw [if_neg (show ¬ (false = true) by decide)] at H
    by_cases c9 : (aD.length : Int) = 0
    ·rw [if_pos c9] at H
     exact absurd H (by simp)
    ·rw [if_neg c9] at H
     have cO : ((aD.length : Int) == 0) = false:=beq_eq_false_iff_ne.mpr c9;have cP : ((aD.length : Int) != 0) = true:=bne_iff_ne.mpr c9
     have cQ : ¬ (aD = []):=fun h_ => c9 (by rw [h_];rfl)
     obtain ⟨aL,aP⟩ : ∃ j_ : Int,(Int.tmod aK (aD.length : Int)) = j_:=⟨_,rfl⟩
     first | rw [aP] at H | simp only [aP] at H
     by_cases a7 : 0 ≤ (aL)
     ·rw [if_pos a7] at H
      have cF:=dt a7;clear a7
      by_cases a8 : (aL) < (aD.length : Int)
      ·rw [if_pos a8] at H
       have cG:=dt a8;clear a8
       by_cases a2 : a1 > 256
       ·rw [if_pos a2] at H
        have a3 : decide (256 < a1) = true:=dt a2;clear a2;obtain ⟨aU,aV⟩ : ∃ j_ : Int,(Int.tmod (wrap64 (aK + 1)) (aD.length : Int)) = j_:=⟨_,rfl⟩
        first | rw [aV] at H | simp only [aV] at H
        by_cases a9 : 0 ≤ (aU)
        ·rw [if_pos a9] at H
         have cH:=dt a9;clear a9
         by_cases bA : (aU) < (aD.length : Int)
         ·rw [if_pos bA] at H
          have cI:=dt bA;clear bA
          by_cases bB : a1 = 0
          ·rw [if_pos bB] at H
           exact absurd H (by simp)
          ·rw [if_neg bB] at H
           have cJ:=e_f bB;have cK:=n_t bB;simp only [Option.some.injEq,Prod.mk.injEq] at H;obtain ⟨rfl,rfl,rfl⟩:=H;obtain ⟨bC,bD,aH,a4,aQ⟩:=HI0.out;have bE:=cellS52_0 aH;have bF:=cellS52_1 aH;have bG:=cellS52_2 aH;have bH:=blk_frozen aH 1;have bI:=blk_frozen aH 2;clear aH a4;have aM : 0 ≤ ((aL) : Int):=odt;have aN : (aL) < (aD.length : Int):=odt;obtain ⟨aI,aY,aA⟩:=Kd.at_int aQ (aL) aM aN;cases aY;have aC : aI.block ≠ g:=nl (Nat.lt_of_lt_of_le (by have:=World.block_lt_of_cell? _ _ aA;first | rwa [add_block] at this | exact this) (IsS52.ge HI0.out));replace aA:=pw_cell_below HB.out aA;replace aA:=(cell_far (p:=⟨g,2,none⟩) (by first | (rw [add_block];exact aC) | (show (Addr.add _ _).block ≠ _;rw [add_block];exact aC) | exact aC) (.int .i64 (wrap64 (aE - 1)))).trans aA;(try have aW:=fun (n_ : Nat) => (show (((wc.drewN n_).setCell ⟨g,2,none⟩ (.int .i64 (wrap64 (aE - 1))))).cell? _ = some _ from aA));clear aC;replace aM:=eq_true aM;replace aN:=eq_true aN;have aZ : 0 ≤ ((aU) : Int):=odt;have a0 : (aU) < (aD.length : Int):=odt;obtain ⟨a5,cE,aB⟩:=Kd.at_int aQ (aU) aZ a0;obtain rfl : aI = a5:=(by injection cE)
           have aF : aI.block ≠ g:=nl (Nat.lt_of_lt_of_le (by have:=World.block_lt_of_cell? _ _ aB;first | rwa [add_block] at this | exact this) (IsS52.ge HI0.out));have aG : aI.block ≠ g:=nl (Nat.lt_of_lt_of_le (by have:=World.block_lt_of_cell? _ _ aB;first | rwa [add_block] at this | exact this) (IsS52.ge HI0.out));replace aB:=pw_cell_below HB.out aB;replace aB:=(cell_far (p:=⟨g,2,none⟩) (by first | (rw [add_block];exact aF) | (show (Addr.add _ _).block ≠ _;rw [add_block];exact aF) | exact aF) (.int .i64 (wrap64 (aE - 1)))).trans aB;replace aB:=(cell_far (p:=⟨g,1,none⟩) (by first | (rw [add_block];exact aG) | (show (Addr.add _ _).block ≠ _;rw [add_block];exact aG) | exact aG) (.int .i64 (wrap64 (aK + 1)))).trans aB;(try have bJ:=fun (n_ : Nat) => (show ((((wc.drewN n_).setCell ⟨g,2,none⟩ (.int .i64 (wrap64 (aE - 1)))).setCell ⟨g,1,none⟩ (.int .i64 (wrap64 (aK + 1))))).cell? _ = some _ from aB));(try have bK:=fun (n_ : Nat) => (show ((((wc.setCell ⟨g,2,none⟩ (.int .i64 (wrap64 (aE - 1)))).drewN n_).setCell ⟨g,1,none⟩ (.int .i64 (wrap64 (aK + 1))))).cell? _ = some _ from aB));clear aF aG;replace aZ:=eq_true aZ;replace a0:=eq_true a0
           go_wp2
           repeat (go_quiet (fail);try go_wp2)
           go_ret
           exact ⟨by first | rfl | (simp [errW_none,errW_some] <;> rfl) | (simp only [← aP,← aV];first | rfl | (simp [errW_none,errW_some] <;> rfl)) | (simp [*,errW_none,errW_some] <;> rfl),Z7 HI0.out,Z10 HI0.out,Z5⟩
         ·rw [if_neg bA] at H
          exact absurd H (by simp)
        ·rw [if_neg a9] at H
         exact absurd H (by simp)
       ·rw [if_neg a2] at H
        have a3 : decide (256 < a1) = false:=df a2;clear a2
        by_cases bL : a1 = 0
        ·rw [if_pos bL] at H
         exact absurd H (by simp)
        ·rw [if_neg bL] at H
         have cL:=e_f bL;have cM:=n_t bL;simp only [Option.some.injEq,Prod.mk.injEq] at H;obtain ⟨rfl,rfl,rfl⟩:=H;obtain ⟨bM,bN,aJ,a6,aX⟩:=HI0.out;have bO:=cellS52_0 aJ;have bP:=cellS52_1 aJ;have bQ:=cellS52_2 aJ;have bR:=blk_frozen aJ 1;have bT:=blk_frozen aJ 2;clear aJ a6;have aM : 0 ≤ ((aL) : Int):=odt;have aN : (aL) < (aD.length : Int):=odt;obtain ⟨aI,aY,aA⟩:=Kd.at_int aX (aL) aM aN;cases aY;have aC : aI.block ≠ g:=nl (Nat.lt_of_lt_of_le (by have:=World.block_lt_of_cell? _ _ aA;first | rwa [add_block] at this | exact this) (IsS52.ge HI0.out));replace aA:=pw_cell_below HB.out aA;replace aA:=(cell_far (p:=⟨g,2,none⟩) (by first | (rw [add_block];exact aC) | (show (Addr.add _ _).block ≠ _;rw [add_block];exact aC) | exact aC) (.int .i64 (wrap64 (aE - 1)))).trans aA;(try have aW:=fun (n_ : Nat) => (show (((wc.drewN n_).setCell ⟨g,2,none⟩ (.int .i64 (wrap64 (aE - 1))))).cell? _ = some _ from aA));clear aC;replace aM:=eq_true aM;replace aN:=eq_true aN
         go_wp2
         repeat (go_quiet (fail);try go_wp2)
         go_ret
         exact ⟨by first | rfl | (simp [errW_none,errW_some] <;> rfl) | (simp only [← aP];first | rfl | (simp [errW_none,errW_some] <;> rfl)) | (simp [*,errW_none,errW_some] <;> rfl),Z7 HI0.out,Z10 HI0.out,Z5⟩
      ·rw [if_neg a8] at H
       exact absurd H (by simp)
     ·rw [if_neg a7] at H
      exact absurd H (by simp)
def spec_source_one.f (k : Nat) (aB : List Int) (aC : Int) (aD : Int) (l1 : List Int) : Option (Int × Int × Int):=(spec_source_pick.f k aB aC aD (l1.length : Int)).bind fun aA => (if 0 ≤ aA.1 then (if aA.1 < (l1.length : Int) then (some (rd l1 aA.1,aA.2.1,aA.2.2)) else (none)) else (none))
theorem spec_source_one.mono : ∀ a0 a1 a2 a3 k,LeO (spec_source_one.f k a0 a1 a2 a3) (spec_source_one.f (k + 1) a0 a1 a2 a3):=by
 intro a0 a1 a2 a3 k
 unfold spec_source_one.f
 repeat' first
   | (with_reducible exact spec_source_pick.mono _ _ _ _ _)
   | (with_reducible exact LeO.refl _)
   | (with_reducible exact LeO.none _)
   | (with_reducible refine LeO.ite ?_ ?_)
   | (with_reducible refine LeO.bind ?_ (fun _ => ?_))
   | exact spec_source_pick.mono _ _ _ _ _
   | exact LeO.none _
   | refine LeO.ite ?_ ?_
   | refine LeO.bind ?_ (fun _ => ?_)
theorem spec_source_one.calls (k : Nat) (g : Nat) (aC : List Int) (aD : Int) (aE : Int) (A1 : Option Addr) (c1 : Nat) (l1 : List Int) (r1 : Int) (r2 : Int) (r3 : Int) (w0 w : World) (hI : IsS52 w0 w g aC aD aE) (hB : Below w0.heap.size w0 w) (hr1 : Kd.C (Kd.int .i64) w A1 l1.length l1) (aM : l1.length ≤ c1) (aI : ∀ ad,A1 = some ad → 0 < l1.length → ad.block ≠ g) (h : spec_source_one.f k aC aD aE l1 = some (r1,r2,r3)) :
  Calls Try.prog 11 #[.pointer (some ⟨g,0,none⟩),.slice A1 l1.length c1] w fun e w' => e = .returned (.int .i64 r1) ∧ IsS52 w0 w' g aC r2 r3 ∧ Below w0.heap.size w0 w' ∧ KeepBut w w' g none:=by
 have aO:=A_ hr1;have aR:=A_ aM;clear hr1 aM;have HI0:=A_ hI;have HK:=A_ (KeepBut.refl w g none);have HL:=A_ hB.size;clear hI;have aS:=A_ hB.size;have HB:=A_ hB;clear hB;have H:=h;unfold spec_source_one.f at H;clear h;replace H:=bS H;obtain ⟨⟨aB,aJ,aK⟩,aN,H⟩:=H
 try dsimp only at H
 have A3:=A_ aN;clear aN
 by_cases c4 : 0 ≤ aB
 ·rw [if_pos c4] at H
  have aP:=dt c4;clear c4
  by_cases c5 : aB < (l1.length : Int)
  ·rw [if_pos c5] at H
   have aQ:=dt c5;clear c5;simp only [Option.some.injEq,Prod.mk.injEq] at H;obtain ⟨rfl,rfl,rfl⟩:=H
   go_enter Try.func11,Try.ntmps11
   go_wp2_with (first | ((with_reducible refine gate_callee (f:=12) rfl ?_);refine gL 9 Try.func12 #[.pointer (some ⟨g,0,none⟩),.int .i64 (l1.length : Int)] ?_;(with_reducible refine (spec_source_pick.calls k g aC aD aE (l1.length : Int) aB aJ aK w0 _ ?s1 ?s2 A3.out).mono ?_);(case s1 => exact Z7 HI0.out);(case s2 => exact Z10 HI0.out);rintro e w6 ⟨rfl,hi,hb,hk⟩;refine ⟨_,rfl,?_⟩;replace HK:=A_ (kt Z5 hk (.inl rfl));replace HB:=A_ hb;replace HI0:=A_ hi;(try clear hb);have aF : 0 ≤ (aB : Int):=odt;have aG : aB < (l1.length : Int):=odt;obtain ⟨aH,aL,aA⟩:=Kd.at_int aO.out aB aF aG;cases aL;replace aA:=keep_cell HK.out aA (by first | (rw [add_block];exact aI _ rfl (by omega)) | exact aI _ rfl (by omega) | exact aI aH rfl (by omega));replace aF:=eq_true aF;replace aG:=eq_true aG))
   go_ret
   exact ⟨Z12,Z7 HI0.out,Z10 HI0.out,Z5⟩
  ·rw [if_neg c5] at H
   exact absurd H (by simp)
 ·rw [if_neg c4] at H
  exact absurd H (by simp)
def spec_inRange.f (a0 : Int) (a1 : Int) (a2 : Int) : Option (Bool):=if a0 ≥ a1 then (some (decide (a0 ≤ a2))) else (some false)
theorem spec_inRange.calls (a0 : Int) (a1 : Int) (a2 : Int) (r : Bool) (w : World) (h : spec_inRange.f a0 a1 a2 = some r) :
  Calls Try.prog 17 #[.int .i64 a0,.int .i64 a1,.int .i64 a2] w fun e w' => e = .returned (.bool r) ∧ Drawn0 w w':=by
 have H:=h;unfold spec_inRange.f at H;clear h
 by_cases c4 : a0 ≥ a1
 ·rw [if_pos c4] at H
  have aA : decide (a1 ≤ a0) = true:=dt c4;clear c4;obtain rfl:=Option.some.inj H
  go_enter Try.func17,Try.ntmps17
  go_wp2
  go_ret
  exact ⟨Z22,Z34⟩
 ·rw [if_neg c4] at H
  have aA : decide (a1 ≤ a0) = false:=df c4;clear c4;obtain rfl:=Option.some.inj H
  go_enter Try.func17,Try.ntmps17
  go_wp2
  go_ret
  exact ⟨Z22,Z34⟩
def spec_plainByte.f (a0 : Int) : Option (Bool):=if a0 ≥ 97 then (if a0 ≤ 122 then (some true) else (if a0 ≥ 48 then (if a0 ≤ 57 then (some true) else (some (a0 == 32))) else (some (a0 == 32)))) else (if a0 ≥ 48 then (if a0 ≤ 57 then (some true) else (some (a0 == 32))) else (some (a0 == 32)))
theorem spec_plainByte.calls (a0 : Int) (r : Bool) (w : World) (h : spec_plainByte.f a0 = some r) :
  Calls Try.prog 55 #[.int .u8 a0] w fun e w' => e = .returned (.bool r) ∧ Drawn0 w w':=by
 have H:=h;unfold spec_plainByte.f at H;clear h
 by_cases c2 : a0 ≥ 97
 ·rw [if_pos c2] at H
  have aA : decide (97 ≤ a0) = true:=dt c2;clear c2
  by_cases c3 : a0 ≤ 122
  ·rw [if_pos c3] at H
   have aB:=dt c3;clear c3;obtain rfl:=Option.some.inj H
   go_enter Try.func55,Try.ntmps55
   go_wp2
   go_ret
   exact ⟨Z22,Z34⟩
  ·rw [if_neg c3] at H
   have aB:=df c3;clear c3
   by_cases c4 : a0 ≥ 48
   ·rw [if_pos c4] at H
    have aC : decide (48 ≤ a0) = true:=dt c4;clear c4
    by_cases c5 : a0 ≤ 57
    ·rw [if_pos c5] at H
     have aD:=dt c5;clear c5;obtain rfl:=Option.some.inj H
     go_enter Try.func55,Try.ntmps55
     go_wp2
     go_ret
     exact ⟨Z22,Z34⟩
    ·rw [if_neg c5] at H
     have aD:=df c5;clear c5;obtain rfl:=Option.some.inj H
     go_enter Try.func55,Try.ntmps55
     go_wp2
     go_ret
     exact ⟨Z22,Z34⟩
   ·rw [if_neg c4] at H
    have aC : decide (48 ≤ a0) = false:=df c4;clear c4;obtain rfl:=Option.some.inj H
    go_enter Try.func55,Try.ntmps55
    go_wp2
    go_ret
    exact ⟨Z22,Z34⟩
 ·rw [if_neg c2] at H
  have aA : decide (97 ≤ a0) = false:=df c2;clear c2
  by_cases c6 : a0 ≥ 48
  ·rw [if_pos c6] at H
   have aE : decide (48 ≤ a0) = true:=dt c6;clear c6
   by_cases c7 : a0 ≤ 57
   ·rw [if_pos c7] at H
    have aF:=dt c7;clear c7;obtain rfl:=Option.some.inj H
    go_enter Try.func55,Try.ntmps55
    go_wp2
    go_ret
    exact ⟨Z22,Z34⟩
   ·rw [if_neg c7] at H
    have aF:=df c7;clear c7;obtain rfl:=Option.some.inj H
    go_enter Try.func55,Try.ntmps55
    go_wp2
    go_ret
    exact ⟨Z22,Z34⟩
  ·rw [if_neg c6] at H
   have aE : decide (48 ≤ a0) = false:=df c6;clear c6;obtain rfl:=Option.some.inj H
   go_enter Try.func55,Try.ntmps55
   go_wp2
   go_ret
   exact ⟨Z22,Z34⟩
def spec_validWord.l0 : Nat → ByteArray → Int → Option (Bool)
 | 0,_,_ => none
 | k + 1,x0,x3 => if x3 < (x0.size : Int) then (if 0 ≤ x3 then ((spec_plainByte.f (bt x0 x3)).bind fun aA => (if aA = true then (spec_validWord.l0 k x0 (wrap64 (x3 + 1))) else (some false))) else (none)) else (some true)
def spec_validWord.f (k : Nat) (a0 : ByteArray) : Option (Bool):=if (a0.size : Int) > 12 then (some false) else (spec_validWord.l0 k a0 0)
theorem spec_validWord.mono_l : ∀ k,(∀ y0 y1,LeO (spec_validWord.l0 k y0 y1) (spec_validWord.l0 (k + 1) y0 y1))
 | 0 => fun _ _ r h => by simp [spec_validWord.l0] at h
 | k + 1 => by
  have aA:=spec_validWord.mono_l k
  ·intro y0 y1
   unfold spec_validWord.l0
   repeat' first
   | (with_reducible exact aA _ _)
   | (with_reducible exact LeO.refl _)
   | (with_reducible exact LeO.none _)
   | (with_reducible refine LeO.ite ?_ ?_)
   | (with_reducible refine LeO.bind ?_ (fun _ => ?_))
   | exact aA _ _
   | exact LeO.none _
   | refine LeO.ite ?_ ?_
   | refine LeO.bind ?_ (fun _ => ?_)
theorem spec_validWord.mono : ∀ a0 k,LeO (spec_validWord.f k a0) (spec_validWord.f (k + 1) a0):=by
 intro a0 k
 have aA:=spec_validWord.mono_l k;unfold spec_validWord.f
 repeat' first
   | (with_reducible exact aA _ _)
   | (with_reducible exact LeO.refl _)
   | (with_reducible exact LeO.none _)
   | (with_reducible refine LeO.ite ?_ ?_)
   | (with_reducible refine LeO.bind ?_ (fun _ => ?_))
   | exact aA _ _
   | exact LeO.none _
   | refine LeO.ite ?_ ?_
   | refine LeO.bind ?_ (fun _ => ?_)
theorem spec_validWord.calls (k : Nat) (a0 : ByteArray) (r : Bool) (w : World) (h : spec_validWord.f k a0 = some r) :
  Calls Try.prog 48 #[.string a0] w fun e w' => e = .returned (.bool r) ∧ Drawn0 w w':=by
 have H:=h;unfold spec_validWord.f at H;clear h
 by_cases c2 : (a0.size : Int) > 12
 ·rw [if_pos c2] at H
  have aB : decide (12 < (a0.size : Int)) = true:=dt c2;have aC : decide (12 < a0.size) = true:=dt (by omega);clear c2;obtain rfl:=Option.some.inj H
  go_enter Try.func48,Try.ntmps48
  go_wp2
  go_ret
  exact ⟨Z22,Z34⟩
 ·rw [if_neg c2] at H
  have aB : decide (12 < (a0.size : Int)) = false:=df c2;have aC : decide (12 < a0.size) = false:=df (by omega);clear c2;have H':=A_ H;clear H
  go_enter Try.func48,Try.ntmps48
  go_wp2
  go_loopg [3] k (fun kq v3 w' => ∃ (aA : Int),v3 = .int .i64 aA ∧ Aside0 (spec_validWord.l0 kq a0 aA = some r) ∧ Aside0 (kq ≤ k) ∧ Drawn0 w w')
  case atStart => exact ⟨(0),Z22,H',⟨Nat.le_refl _⟩,Z34⟩
  case round =>
   clear H' aB aC;obtain ⟨aA,rfl,HA,aF,⟨m1,rfl⟩⟩:=hrel
   cases gk with
   | zero => exact absurd HA.out (by simp [spec_validWord.l0])
   | succ k1 =>
    have H:=HA.out;clear HA;simp only [spec_validWord.l0] at H
    by_cases c3 : aA < (a0.size : Int)
    ·rw [if_pos c3] at H
     have aD:=dt c3;clear c3
     by_cases c4 : 0 ≤ aA
     ·rw [if_pos c4] at H
      have aH:=dt c4;clear c4;replace H:=bS H;obtain ⟨aE,aG,H⟩:=H
      try dsimp only at H
      have A6:=A_ aG;clear aG
      by_cases c7 : aE = true
      ·subst c7
       rw [if_pos rfl] at H;have H':=A_ H;clear H;have p5 : 0 ≤ (aA : Int):=odt;have q5 : aA < (a0.size : Int):=odt;have aI:=bt_at a0 aA;replace p5:=eq_true p5;replace q5:=eq_true q5
       go_wp2_with (first | ((with_reducible refine gate_callee (f:=55) rfl ?_);refine gL 16 Try.func55 #[.int .u8 (bt a0 aA)] ?_;(with_reducible refine (spec_plainByte.calls (bt a0 aA) true _ A6.out).mono ?_);rintro e w' ⟨rfl,⟨nd,rfl⟩⟩;refine ⟨_,rfl,?_⟩))
       go_roundg k1
       case measure => have:=aF.out;omega
       case rel => exact ⟨(wrap64 (aA + 1)),Z22,H',⟨by have:=aF.out;omega⟩,Z34⟩
      ·replace c7:=Bool.eq_false_iff.mpr c7
       subst c7;rw [if_neg (show ¬ (false = true) by decide)] at H;obtain rfl:=Option.some.inj H;have p5 : 0 ≤ (aA : Int):=odt;have q5 : aA < (a0.size : Int):=odt;have aI:=bt_at a0 aA;replace p5:=eq_true p5;replace q5:=eq_true q5
       go_wp2_with (first | ((with_reducible refine gate_callee (f:=55) rfl ?_);refine gL 16 Try.func55 #[.int .u8 (bt a0 aA)] ?_;(with_reducible refine (spec_plainByte.calls (bt a0 aA) false _ A6.out).mono ?_);rintro e w' ⟨rfl,⟨nd,rfl⟩⟩;refine ⟨_,rfl,?_⟩))
       go_ret
       exact ⟨Z22,Z34⟩
     ·rw [if_neg c4] at H
      exact absurd H (by simp)
    ·rw [if_neg c3] at H
     have aD:=df c3;clear c3;obtain rfl:=Option.some.inj H
     go_wp2
     go_ret
     exact ⟨Z22,Z34⟩
def spec_validValue.f (k : Nat) (aA : Int) (aB : Int) (aC : ByteArray) : Option (Bool):=if aA = 0 then (if aB = 0 then (some (aC.toList == ([] : List UInt8))) else (some false)) else (if aA = 1 then ((spec_inRange.f aB (-1000) 1000).bind fun aD => (if aD = true then (some (aC.toList == ([] : List UInt8))) else (some false))) else (if aA = 2 then (if aB = 0 then ((spec_validWord.f k aC).bind fun aE => (some aE)) else (some false)) else (some false)))
theorem spec_validValue.mono : ∀ a0 a1 a2 k,LeO (spec_validValue.f k a0 a1 a2) (spec_validValue.f (k + 1) a0 a1 a2):=by
 intro a0 a1 a2 k
 unfold spec_validValue.f
 repeat' first
   | (with_reducible exact spec_validWord.mono _ _)
   | (with_reducible exact LeO.refl _)
   | (with_reducible exact LeO.none _)
   | (with_reducible refine LeO.ite ?_ ?_)
   | (with_reducible refine LeO.bind ?_ (fun _ => ?_))
   | exact spec_validWord.mono _ _
   | exact LeO.none _
   | refine LeO.ite ?_ ?_
   | refine LeO.bind ?_ (fun _ => ?_)
theorem spec_validValue.calls (k : Nat) (aA : Int) (aB : Int) (aF : ByteArray) (r : Bool) (w : World) (h : spec_validValue.f k aA aB aF = some r) :
  Calls Try.prog 39 #[.agg #[.int .i64 aA,.int .i64 aB,.string aF]] w fun e w' => e = .returned (.bool r) ∧ Below w.heap.size w w':=by
 have b5:=Try.underlying67;have HB:=A_ (Below.refl w.heap.size w);have H:=h;unfold spec_validValue.f at H;clear h
 by_cases c2 : aA = 0
 ·rw [if_pos c2] at H
  have bJ:=e_t c2;have bK:=n_f c2;clear c2
  by_cases c3 : aB = 0
  ·rw [if_pos c3] at H
   have bL:=e_t c3;have bM:=n_f c3;clear c3;obtain rfl:=Option.some.inj H
   go_enter Try.func39,Try.ntmps39
   go_wp2_with (first | ((with_reducible refine gate_dst (N:=1) rfl ?_);refine be (cs:=#[.int .i64 aA,.int .i64 aB,.string aF]) (t:=67) ?_;intro aG hg w4 hbox hb;have aC:=A_ hbox;have aD:=A_ (gl hg (bz Z2));have aE:=aD;replace HB:=A_ (bst Z2 hb);clear hb hbox hg;obtain ⟨bN,bO,bP,bQ,bR,bT⟩:=C3 aC.out))
   go_ret
   exact ⟨Z12,Z3 aE.out⟩
  ·rw [if_neg c3] at H
   have bL:=e_f c3;have bM:=n_t c3;obtain rfl:=Option.some.inj H
   go_enter Try.func39,Try.ntmps39
   go_wp2_with (first | ((with_reducible refine gate_dst (N:=1) rfl ?_);refine be (cs:=#[.int .i64 aA,.int .i64 aB,.string aF]) (t:=67) ?_;intro aG hg w6 hbox hb;have aC:=A_ hbox;have aD:=A_ (gl hg (bz Z2));have aE:=aD;replace HB:=A_ (bst Z2 hb);clear hb hbox hg;obtain ⟨bU,bV,bW,bX,bY,bZ⟩:=C3 aC.out))
   go_ret
   exact ⟨Z12,Z3 aE.out⟩
 ·rw [if_neg c2] at H
  have bJ:=e_f c2;have bK:=n_t c2
  by_cases c8 : aA = 1
  ·rw [if_pos c8] at H
   have b0:=e_t c8;have b1:=n_f c8;clear c8;replace H:=bS H;obtain ⟨b2,b4,H⟩:=H
   try dsimp only at H
   have A9:=A_ b4;clear b4
   by_cases c10 : b2 = true
   ·subst c10
    rw [if_pos rfl] at H;obtain rfl:=Option.some.inj H
    go_enter Try.func39,Try.ntmps39
    go_wp2_with (first | ((with_reducible refine gate_dst (N:=1) rfl ?_);refine be (cs:=#[.int .i64 aA,.int .i64 aB,.string aF]) (t:=67) ?_;intro aG hg b7 hbox hb;have aC:=A_ hbox;have aD:=A_ (gl hg (bz Z2));have aE:=aD;replace HB:=A_ (bst Z2 hb);clear hb hbox hg;obtain ⟨aO,aP,aQ,aR,aS,aT⟩:=C3 aC.out) | ((with_reducible refine gate_callee (f:=17) rfl ?_);refine gL 19 Try.func17 #[.int .i64 aB,.int .i64 (-1000),.int .i64 1000] ?_;(with_reducible refine (spec_inRange.calls aB (-1000) 1000 true _ A9.out).mono ?_);rintro e w' ⟨rfl,⟨nd,rfl⟩⟩;refine ⟨_,rfl,?_⟩))
    go_ret
    exact ⟨Z12,Z3 aE.out⟩
   ·replace c10:=Bool.eq_false_iff.mpr c10
    subst c10;rw [if_neg (show ¬ (false = true) by decide)] at H;obtain rfl:=Option.some.inj H
    go_enter Try.func39,Try.ntmps39
    go_wp2_with (first | ((with_reducible refine gate_dst (N:=1) rfl ?_);refine be (cs:=#[.int .i64 aA,.int .i64 aB,.string aF]) (t:=67) ?_;intro aG hg b8 hbox hb;have aC:=A_ hbox;have aD:=A_ (gl hg (bz Z2));have aE:=aD;replace HB:=A_ (bst Z2 hb);clear hb hbox hg;obtain ⟨aU,aV,aW,aX,aY,aZ⟩:=C3 aC.out) | ((with_reducible refine gate_callee (f:=17) rfl ?_);refine gL 19 Try.func17 #[.int .i64 aB,.int .i64 (-1000),.int .i64 1000] ?_;(with_reducible refine (spec_inRange.calls aB (-1000) 1000 false _ A9.out).mono ?_);rintro e w' ⟨rfl,⟨nd,rfl⟩⟩;refine ⟨_,rfl,?_⟩))
    go_ret
    exact ⟨Z12,Z3 aE.out⟩
  ·rw [if_neg c8] at H
   have b0:=e_f c8;have b1:=n_t c8
   by_cases aH : aA = 2
   ·rw [if_pos aH] at H
    have aJ:=e_t aH;have aK:=n_f aH;clear aH
    by_cases aI : aB = 0
    ·rw [if_pos aI] at H
     have aL:=e_t aI;have aM:=n_f aI;clear aI;replace H:=bS H;obtain ⟨b3,aN,H⟩:=H
     try dsimp only at H
     have b6:=A_ aN;clear aN;obtain rfl:=Option.some.inj H
     go_enter Try.func39,Try.ntmps39
     go_wp2_with (first | ((with_reducible refine gate_dst (N:=1) rfl ?_);refine be (cs:=#[.int .i64 aA,.int .i64 aB,.string aF]) (t:=67) ?_;intro aG hg b9 hbox hb;have aC:=A_ hbox;have aD:=A_ (gl hg (bz Z2));have aE:=aD;replace HB:=A_ (bst Z2 hb);clear hb hbox hg;obtain ⟨a0,a2,a3,a4,a5,a6⟩:=C3 aC.out) | (go_at_call 48;(with_reducible refine (spec_validWord.calls k aF b3 _ b6.out).mono ?_);rintro e w' ⟨rfl,⟨nd,rfl⟩⟩))
     go_ret
     exact ⟨Z12,Z3 aE.out⟩
    ·rw [if_neg aI] at H
     have aL:=e_f aI;have aM:=n_t aI;obtain rfl:=Option.some.inj H
     go_enter Try.func39,Try.ntmps39
     go_wp2_with (first | ((with_reducible refine gate_dst (N:=1) rfl ?_);refine be (cs:=#[.int .i64 aA,.int .i64 aB,.string aF]) (t:=67) ?_;intro aG hg cA hbox hb;have aC:=A_ hbox;have aD:=A_ (gl hg (bz Z2));have aE:=aD;replace HB:=A_ (bst Z2 hb);clear hb hbox hg;obtain ⟨a7,a8,a9,bA,bB,bC⟩:=C3 aC.out))
     go_ret
     exact ⟨Z12,Z3 aE.out⟩
   ·rw [if_neg aH] at H
    have aJ:=e_f aH;have aK:=n_t aH;obtain rfl:=Option.some.inj H
    go_enter Try.func39,Try.ntmps39
    go_wp2_with (first | ((with_reducible refine gate_dst (N:=1) rfl ?_);refine be (cs:=#[.int .i64 aA,.int .i64 aB,.string aF]) (t:=67) ?_;intro aG hg cB hbox hb;have aC:=A_ hbox;have aD:=A_ (gl hg (bz Z2));have aE:=aD;replace HB:=A_ (bst Z2 hb);clear hb hbox hg;obtain ⟨bD,bE,bF,bG,bH,bI⟩:=C3 aC.out))
    go_ret
    exact ⟨Z12,Z3 aE.out⟩
def spec_validValues.l0 : Nat → List (S67) → Int → Option (Bool)
 | 0,_,_ => none
 | k + 1,x0,x3 => if x3 < (x0.length : Int) then (if 0 ≤ x3 then ((spec_validValue.f k ((rd_T67 x0 x3).f0) ((rd_T67 x0 x3).f1) ((rd_T67 x0 x3).f2)).bind fun aA => (if aA = true then (spec_validValues.l0 k x0 (wrap64 (x3 + 1))) else (some false))) else (none)) else (some true)
def spec_validValues.f (k : Nat) (l0 : List (S67)) : Option (Bool):=spec_validValues.l0 k l0 0
theorem spec_validValues.calls (k : Nat) (A0 : Option Addr) (c0 : Nat) (l0 : List (S67)) (r : Bool) (w : World) (aK : Kd.C k67 w A0 l0.length l0) (hc0 : l0.length ≤ c0) (h : spec_validValues.f k l0 = some r) :
  Calls Try.prog 27 #[.slice A0 l0.length c0] w fun e w' => e = .returned (.bool r) ∧ Below w.heap.size w w':=by
 have aO:=Try.underlying67;have aL:=A_ aK;have aQ:=A_ hc0;clear aK hc0;have HB:=A_ (Below.refl w.heap.size w);have H:=h;unfold spec_validValues.f at H;clear h;have H':=A_ H;clear H
 go_enter Try.func27,Try.ntmps27
 go_wp2
 go_loopg [3] k (fun kq v3 w' => ∃ (aA : Int),v3 = .int .i64 aA ∧ Aside0 (spec_validValues.l0 kq l0 aA = some r) ∧ Aside0 (kq ≤ k) ∧ Aside0 (Below w.heap.size w w'))
 case atStart => exact ⟨(0),Z22,H',⟨Nat.le_refl _⟩,⟨Z2⟩⟩
 case round =>
  clear H';obtain ⟨aA,rfl,HA,aM,HB⟩:=hrel
  cases gk with
  | zero => exact absurd HA.out (by simp [spec_validValues.l0])
  | succ k1 =>
   have H:=HA.out;clear HA;simp only [spec_validValues.l0] at H
   by_cases c2 : aA < (l0.length : Int)
   ·rw [if_pos c2] at H
    have aI:=dt c2;clear c2
    by_cases c3 : 0 ≤ aA
    ·rw [if_pos c3] at H
     have aP:=dt c3;clear c3;replace H:=bS H;obtain ⟨aJ,aN,H⟩:=H
     try dsimp only at H
     have A4:=A_ aN;clear aN
     by_cases c5 : aJ = true
     ·subst c5
      rw [if_pos rfl] at H;have H':=A_ H;clear H;have aE : 0 ≤ (aA : Int):=odt;have aF : aA < (l0.length : Int):=odt;obtain ⟨aH,aG,aB,aC,aD⟩:=at_T67 aL.out aA aE aF;cases aG;replace aB:=ZC HB.out aB;replace aC:=ZC HB.out aC;replace aD:=ZC HB.out aD;replace aE:=eq_true aE;replace aF:=eq_true aF
      go_wp2_with (first | ((with_reducible refine gate_callee (f:=39) rfl ?_);refine gL 14 Try.func39 #[.agg #[.int .i64 ((rd_T67 l0 aA).f0),.int .i64 ((rd_T67 l0 aA).f1),.string ((rd_T67 l0 aA).f2)]] ?_;(with_reducible refine (spec_validValue.calls k1 ((rd_T67 l0 aA).f0) ((rd_T67 l0 aA).f1) ((rd_T67 l0 aA).f2) true _ A4.out).mono ?_);rintro e w6 ⟨rfl,hb⟩;refine ⟨_,rfl,?_⟩;replace HB:=A_ (bst Z2 hb);(try clear hb)))
      go_roundg k1
      case measure => have:=aM.out;omega
      case rel => exact ⟨(wrap64 (aA + 1)),Z22,H',⟨by have:=aM.out;omega⟩,⟨Z2⟩⟩
     ·replace c5:=Bool.eq_false_iff.mpr c5
      subst c5;rw [if_neg (show ¬ (false = true) by decide)] at H;obtain rfl:=Option.some.inj H;have aE : 0 ≤ (aA : Int):=odt;have aF : aA < (l0.length : Int):=odt;obtain ⟨aH,aG,aB,aC,aD⟩:=at_T67 aL.out aA aE aF;cases aG;replace aB:=ZC HB.out aB;replace aC:=ZC HB.out aC;replace aD:=ZC HB.out aD;replace aE:=eq_true aE;replace aF:=eq_true aF
      go_wp2_with (first | ((with_reducible refine gate_callee (f:=39) rfl ?_);refine gL 14 Try.func39 #[.agg #[.int .i64 ((rd_T67 l0 aA).f0),.int .i64 ((rd_T67 l0 aA).f1),.string ((rd_T67 l0 aA).f2)]] ?_;(with_reducible refine (spec_validValue.calls k1 ((rd_T67 l0 aA).f0) ((rd_T67 l0 aA).f1) ((rd_T67 l0 aA).f2) false _ A4.out).mono ?_);rintro e w7 ⟨rfl,hb⟩;refine ⟨_,rfl,?_⟩;replace HB:=A_ (bst Z2 hb);(try clear hb)))
      go_ret
      exact ⟨Z12,Z2⟩
    ·rw [if_neg c3] at H
     exact absurd H (by simp)
   ·rw [if_neg c2] at H
    have aI:=df c2;clear c2;obtain rfl:=Option.some.inj H
    go_wp2
    go_ret
    exact ⟨Z12,Z2⟩
end Go.Proofs.Ytmgdjmeoljepgaa.PFnProgBelow
