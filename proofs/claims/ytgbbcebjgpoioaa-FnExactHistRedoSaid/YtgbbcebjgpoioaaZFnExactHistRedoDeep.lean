/- Rows whose elements are rows of rows, all told apart; a row cut with a capacity; blocks with a window of ages and a colour (no condition). -/
import Derived.Test.YtgbbcebjgpoioaaZFnExactHistRedoWin
namespace Go.Proofs.YtgbbcebjgpoioaaW.PrintWords
set_option linter.unusedVariables false
open Go.RowKit
def Hue (a b : Nat) (f : Nat → Nat) (j : Nat) (k : Nat) : Prop := Win a b k ∧ f k = j
def Typed (E : List Nat) (w : World) (k : Nat) : Prop := ∃ q, q ∈ E ∧ ∃ cells, w.heap[k]? = some (.cells cells q (0, 0))
theorem untyped {E : List Nat} {w : World} {g t : Nat} {cells : Array Value} (hb : w.heap[g]? = some (.cells cells t (0, 0))) (ht : ∀ q, q ∈ E → q ≠ t) : ¬ Typed E w g := by
 rintro ⟨q, hq, c, hc⟩
 rw [hb] at hc; injection hc with hc; injection hc with _ h2 _
 exact ht q hq h2.symm
theorem blk_own {w : World} {g : Nat} {o : Obj} (h : w.heap[g]? = some o) : w.heap[g]? = some o := h
theorem sz_set {s : Nat} {W : World} (h : s ≤ W.heap.size) (p : Addr) (u : Value) : s ≤ (W.setCell p u).heap.size := Nat.le_trans h (Below.setCell (B := 0) (Below.refl 0 W) (Nat.zero_le _) u).size
namespace Kd
def rows {α : Type} (e : Nat) (d : Kd α) : Kd (List α) where
 sz := 1
 E := e :: d.E
 K := (slice e d).K
 M := fun w base ok xs cs => ∃ v, cs = [v] ∧ S d e w base ok v xs
 K_len := (slice e d).K_len
 K_one := (slice e d).K_one
 K_below := (slice e d).K_below
 K_of_M := by
  rintro w base ok x cs ⟨v, rfl, h⟩
  obtain ⟨A, c, rfl, hl, hr⟩ := S_reads h
  exact ⟨A, c, rfl, hl, hr⟩
 M_mono := by
  rintro w base ok ok' x cs hok ⟨v, rfl, h⟩
  exact ⟨v, rfl, S_mono h hok⟩
 M_bound := by
  rintro w base ok x cs ⟨v, rfl, h⟩
  exact ⟨v, rfl, S_bound h⟩
 M_move := by
  rintro w w1 base ok x cs hm ⟨v, rfl, h⟩
  exact ⟨v, rfl, S_move h hm⟩
 M_lower := by
  rintro w base base' ok x cs hb ⟨v, rfl, h⟩
  exact ⟨v, rfl, S_lower h hb⟩
def T {α : Type} (d : Kd α) (e : Nat) (w : World) (base : Nat) (ok : Nat → Prop) (v : Value) (xs : List α) : Prop := ∃ A n c c', v = .slice A n c ∧ n ≤ c ∧ S d e w base ok (.slice A n c') xs
section
variable {α : Type} {d : Kd α} {e base B a b a' b' s : Nat} {ok ok' : Nat → Prop} {w w1 W W1 : World} {v : Value} {xs : List α} {A : Option Addr} {n c : Nat} {f : Nat → Nat} {j : Nat} {P : Nat → Prop}
theorem T_of (h : S d e w base ok v xs) : T d e w base ok v xs := by
 obtain ⟨A, c, rfl⟩ := S_slice h
 exact ⟨A, _, c, c, rfl, (S_reads' h).2.1, h⟩
theorem T_mono (h : T d e w base ok v xs) (hok : ∀ k, ok k → ok' k) : T d e w base ok' v xs := by
 obtain ⟨A, n, c, c', rfl, hl, h⟩ := h
 exact ⟨A, n, c, c', rfl, hl, S_mono h hok⟩
theorem T_bound (h : T d e w base ok v xs) : T d e w base (fun k => ok k ∧ base ≤ k ∧ k < w.heap.size ∧ Typed (e :: d.E) w k) v xs := by
 obtain ⟨A, n, c, c', rfl, hl, h⟩ := h
 exact ⟨A, n, c, c', rfl, hl, S_bound h⟩
theorem T_step (h : T d e w base ok v xs) (hm : ∀ k, ok k → k < w.heap.size → w1.heap[k]? = w.heap[k]?) : T d e w1 base ok v xs := by
 obtain ⟨A, n, c, c', rfl, hl, h⟩ := h
 exact ⟨A, n, c, c', rfl, hl, S_step h hm⟩
theorem T_lower {base' : Nat} (h : T d e w base ok v xs) (hb : base' ≤ base) : T d e w base' ok v xs := by
 obtain ⟨A, n, c, c', rfl, hl, h⟩ := h
 exact ⟨A, n, c, c', rfl, hl, S_lower h hb⟩
theorem T_below (h : T d e w base ok v xs) (hb : Below w.heap.size w w1) : T d e w1 base ok v xs := T_step h (fun k _ hk => hb.block k hk)
theorem T_alloc (h : T d e w base ok v xs) (o : Obj) : T d e (w.alloc o) base ok v xs := T_below h (below_alloc (Below.refl _ _) o)
theorem T_drew (h : T d e w base ok v xs) : T d e w.drew base ok v xs := T_below h (below_drew (Below.refl _ _))
theorem T_drewN (h : T d e w base ok v xs) (m : Nat) : T d e (w.drewN m) base ok v xs := T_below h (pw_below_drewN (Below.refl _ _) m)
theorem T_far (h : T d e w base ok v xs) {p : Addr} (hok : ∀ k, ok k → k ≠ p.block) (u : Value) : T d e (w.setCell p u) base ok v xs := T_step h (fun k ho _ => Below.heap_setCell w p u k (hok k ho))
theorem T_grown (h : T d e w base ok v xs) {row : Option Nat} (hg : w.grownBy w1 row) (hok : ∀ k, ok k → some k ≠ row) : T d e w1 base ok v xs := T_step h (fun k ho hk => hg.block k hk (hok k ho))
theorem T_types (h : T d e w base ok v xs) {g t : Nat} {cells : Array Value} (hb : w.heap[g]? = some (.cells cells t (0, 0))) (ht : ∀ q, q ∈ e :: d.E → q ≠ t) : T d e w base (fun k => ok k ∧ k ≠ g) v xs := by
 obtain ⟨A, n, c, c', rfl, hl, h⟩ := h
 exact ⟨A, n, c, c', rfl, hl, S_types h hb ht⟩
theorem T_kept {Q : Nat → Prop} (h : T d e W base ok v xs) (hk : Kept W W1 Q) (hne : ∀ k, ok k → ¬ Q k) : T d e W1 base ok v xs := T_step h (fun k ho hlt => hk.2 k hlt (hne k ho))
theorem T_slice (h : T d e w base ok v xs) : ∃ A c, v = .slice A xs.length c := by
 obtain ⟨A, n, c, c', rfl, hl, h⟩ := h; obtain ⟨rfl, _, _⟩ := S_reads' h
 exact ⟨A, c, rfl⟩
theorem T_reads' (h : T d e w base ok (.slice A n c) xs) : n = xs.length ∧ n ≤ c ∧ d.C w A xs.length xs := by
 obtain ⟨A', n', c1, c', hv, hl, h⟩ := h; injection hv with h1 h2 h3; subst h1 h2 h3; obtain ⟨h1, _, h2⟩ := S_reads' h
 exact ⟨h1, hl, h2⟩
theorem S_hueK (h : S d e W base (Hue a b f j) v xs) (hk : Kept W W1 P) (hP : ∀ k, P k → Win a' b' k) (hd : b ≤ a' ∨ b' ≤ a) : S d e W1 base (Hue a b f j) v xs := S_kept h hk (fun k h1 h2 => win_apart hd k h1.1 (hP k h2))
theorem T_hueK (h : T d e W base (Hue a b f j) v xs) (hk : Kept W W1 P) (hP : ∀ k, P k → Win a' b' k) (hd : b ≤ a' ∨ b' ≤ a) : T d e W1 base (Hue a b f j) v xs := T_kept h hk (fun k h1 h2 => win_apart hd k h1.1 (hP k h2))
theorem S_winP (h : S d e W base (Win a b) v xs) (hk : Kept W W1 P) (hP : ∀ k, P k → Win a' b' k) (hd : b ≤ a' ∨ b' ≤ a) : S d e W1 base (Win a b) v xs := S_kept h hk (fun k h1 h2 => win_apart hd k h1 (hP k h2))
theorem R_winP (h : d.R e W base (Win a b) v xs) (hk : Kept W W1 P) (hP : ∀ k, P k → Win a' b' k) (hd : b ≤ a' ∨ b' ≤ a) : d.R e W1 base (Win a b) v xs := R_kept h hk (fun k h1 h2 => win_apart hd k h1 (hP k h2))
theorem S_hue (h : S d e W1 B (fun k => f k = j) v xs) (hb : base ≤ B) : S d e W1 base (Hue B W1.heap.size f j) v xs := S_lower (S_mono (S_bound h) (fun k hk => ⟨⟨hk.2.1, hk.2.2.1⟩, hk.1⟩)) hb
theorem T_hue (h : T d e W1 B (fun k => f k = j) v xs) (hb : base ≤ B) : T d e W1 base (Hue B W1.heap.size f j) v xs := T_lower (T_mono (T_bound h) (fun k hk => ⟨⟨hk.2.1, hk.2.2.1⟩, hk.1⟩)) hb
theorem S_winN (h : S d e W1 B ok v xs) (hb : base ≤ B) : S d e W1 base (Win B W1.heap.size) v xs := S_lower (S_mono (S_bound h) (fun k hk => ⟨hk.2.1, hk.2.2.1⟩)) hb
theorem R_winN (h : d.R e W1 B ok v xs) (hb : base ≤ B) : d.R e W1 base (Win B W1.heap.size) v xs := R_lower (R_mono (R_bound h) (fun k hk => ⟨hk.2.1, hk.2.2.1⟩)) hb
theorem S_rowput {g cap : Nat} {okg : Nat → Prop} {ys : List α} {xss : List (List α)} {E : Nat} {i : Int} (h : S (rows e d) E W base (fun k => ok k ∧ ¬ okg k) (.slice (some ⟨g, 0, none⟩) n cap) xss) (h0 : 0 ≤ i) (h1 : i < n) {u : Value}
  (hu : S d e W base okg u ys) (hg : ∀ k, okg k → ok k) : S (rows e d) E (W.setCell ⟨g, i.toNat, none⟩ u) base ok (.slice (some ⟨g, 0, none⟩) n cap) (xss.set i.toNat ys) ∧ W.grownBy (W.setCell ⟨g, i.toNat, none⟩ u) (some g) := by
 obtain ⟨oki, c, hcl, hM, hcc, hoki, hH⟩ := S_lend h [] i h0 h1; obtain ⟨u0, rfl, _⟩ := hM; have hH2 : H (rows e d) E W base (fun k => ok k ∧ ¬ okg k) (.slice (some ⟨g, 0, none⟩) n cap) xss i oki [u0] := hH; have hg0 := (S_R h).1 g (by simp [Value.ownBlock]); have hq := S_seg (seg := [u]) (j := 0) (x' := ys) (okp := okg) hH2 h0 h1 (Nat.le_refl 1) ⟨u, rfl, hu⟩ (fun k hk => .inr hk) (fun k hk => ⟨hg k hk, fun e_ => hg0.2 (by rw [← e_]; exact hk)⟩)
 simpa only [show (rows e d).sz = 1 from rfl, Nat.mul_one, Nat.add_zero, World.setCells] using hq
theorem H_take {g cap : Nat} {i : Int} {oki : Nat → Prop} {cs : List Value} (h : H d e w base ok (.slice (some ⟨g, 0, none⟩) n cap) xs i oki cs) (hm : i.toNat ≤ xs.length) : S d e w base (fun k => ok k ∧ ¬ oki k) (.slice (some ⟨g, 0, none⟩) i.toNat cap) (xs.take i.toNat) := by
 obtain ⟨_, f, h⟩ := h; obtain ⟨h0, inner, ho, hr⟩ := R_take h (m := i.toNat) (by rw [List.length_zipIdx]; exact hm)
 have he : (xs.take i.toNat).zipIdx = xs.zipIdx.take i.toNat := by
  apply List.ext_getElem?
  intro j
  simp only [List.getElem?_zipIdx, List.getElem?_take, Nat.zero_add]
  split <;> simp
 refine ⟨f, h0, inner, by rw [he]; exact ho, by rw [he]; exact hr.1, fun j p hj => ?_⟩
 rw [he] at hj; have hp := hr.2 j p hj; rw [List.getElem?_take] at hj
 split at hj
 ·rw [List.getElem?_zipIdx, Nat.zero_add] at hj
  obtain ⟨q, hq, rfl⟩ := Option.map_eq_some_iff.1 hj
  exact hp.2 (by simp only; omega)
 ·cases hj
theorem S_split {α' : Type} {d' : Kd α'} {e' : Nat} {u : Value} {ys : List α'} (h : S d e W base (fun _ => True) v xs) (hn : S d' e' W1 W.heap.size (fun _ => True) u ys) (hb : Below W.heap.size W W1) (hbase : base ≤ W.heap.size) :
  ∃ s, S d e W1 base (fun k => True ∧ ¬ s ≤ k) v xs ∧ S d' e' W1 base (fun k => s ≤ k) u ys :=
 ⟨W.heap.size, S_mono (S_old h hb) (fun k hk => ⟨trivial, Nat.not_le.2 hk.2⟩), S_lower (S_mono (S_bound hn) (fun k hk => hk.2.1)) hbase⟩
theorem hue3 {α0 α1 α2 : Type} {d0 : Kd α0} {d1 : Kd α1} {d2 : Kd α2} {e0 e1 e2 : Nat} {v0 v1 v2 : Value} {x0 : List α0} {x1 : List α1} {x2 : List α2} (h0 : S d0 e0 W1 B (fun k => f k = 0) v0 x0) (h1 : T d1 e1 W1 B (fun k => f k = 1) v1 x1) (h2 : T d2 e2 W1 B (fun k => f k = 2) v2 x2)
  (hb : base ≤ B) (hs : s ≤ B) (hle : B ≤ W1.heap.size) : ∃ a b, S d0 e0 W1 base (Hue a b f 0) v0 x0 ∧ T d1 e1 W1 base (Hue a b f 1) v1 x1 ∧ T d2 e2 W1 base (Hue a b f 2) v2 x2 ∧ s ≤ a ∧ a ≤ b ∧ b ≤ W1.heap.size :=
 ⟨B, _, S_hue h0 hb, T_hue h1 hb, T_hue h2 hb, hs, hle, Nat.le_refl _⟩
theorem win3 {α0 α1 α2 : Type} {d0 : Kd α0} {d1 : Kd α1} {d2 : Kd α2} {e0 e1 e2 : Nat} {v0 v1 v2 : Value} {x0 : List α0} {x1 : List α1} {x2 : List α2} {ok0 ok1 ok2 : Nat → Prop} (h0 : S d0 e0 W1 B ok0 v0 x0) (h1 : d1.R e1 W1 B ok1 v1 x1) (h2 : d2.R e2 W1 B ok2 v2 x2)
  (hb : base ≤ B) (hs : s ≤ B) (hle : B ≤ W1.heap.size) : ∃ a b, S d0 e0 W1 base (Win a b) v0 x0 ∧ d1.R e1 W1 base (Win a b) v1 x1 ∧ d2.R e2 W1 base (Win a b) v2 x2 ∧ s ≤ a ∧ a ≤ b ∧ b ≤ W1.heap.size :=
 ⟨B, _, S_winN h0 hb, R_winN h1 hb, R_winN h2 hb, hs, hle, Nat.le_refl _⟩
theorem S_win1 (h : S d e W1 B ok v xs) (hb : base ≤ B) (hs : s ≤ B) (hle : B ≤ W1.heap.size) : ∃ a b, S d e W1 base (Win a b) v xs ∧ s ≤ a ∧ a ≤ b ∧ b ≤ W1.heap.size := ⟨B, _, S_winN h hb, hs, hle, Nat.le_refl _⟩
open Classical in
theorem hues {P0 P1 P2 : Nat → Prop} (h01 : ∀ k, P0 k → ¬ P1 k) (h02 : ∀ k, P0 k → ¬ P2 k) (h12 : ∀ k, P1 k → ¬ P2 k) : ∃ f : Nat → Nat, (∀ k, P0 k → f k = 0) ∧ (∀ k, P1 k → f k = 1) ∧ ∀ k, P2 k → f k = 2 :=
 ⟨fun k => if P0 k then 0 else if P1 k then 1 else 2, fun k hk => if_pos hk, fun k hk => (if_neg (fun h => h01 k h hk)).trans (if_pos hk), fun k hk => (if_neg (fun h => h02 k h hk)).trans (if_neg (fun h => h12 k h hk))⟩
theorem three {a0 b0 a1 b1 a2 b2 : Nat} (h0 : b0 ≤ a1) (h1 : b1 ≤ a2) (h2 : a1 ≤ b1) : ∃ f : Nat → Nat, (∀ k, Win a0 b0 k → f k = 0) ∧ (∀ k, Win a1 b1 k → f k = 1) ∧ ∀ k, Win a2 b2 k → f k = 2 :=
 ⟨fun k => if k < b0 then 0 else if k < b1 then 1 else 2, fun k hk => if_pos hk.2, fun k hk => by
  have := hk.1; have := hk.2
  exact (if_neg (by omega)).trans (if_pos (by omega)), fun k hk => by
  have := hk.1
  exact (if_neg (by omega)).trans (if_neg (by omega))⟩
end
end Kd
end Go.Proofs.YtgbbcebjgpoioaaW.PrintWords
