/- A row whose elements' inner rows lie apart, told by its cells: so that the elements may be put into a new row, some of them left out (no condition). -/
import Derived.Test.YtpadhphdglbciaaZFnExactEffectsLiveWN
import Derived.Test.YtpadhphdglbciaaZFnExactEffectsLiveWMore
namespace Go.Proofs.YtpadhphdglbciaaW.PrintWords
set_option linter.unusedVariables false
open Go.RowKit
namespace Kd
def cel {α : Type} (d : Kd α) : Kd (α × List Value) where
 sz := d.sz
 E := d.E
 K := fun w x cs => cs = x.2 ∧ d.K w x.1 cs
 M := fun w base ok x cs => cs = x.2 ∧ d.M w base ok x.1 cs
 K_len := fun h => d.K_len h.2
 K_one := fun h => d.K_one h.2
 K_below := fun hb h => ⟨h.1, d.K_below hb h.2⟩
 K_of_M := fun h => ⟨h.1, d.K_of_M h.2⟩
 M_mono := fun hok h => ⟨h.1, d.M_mono hok h.2⟩
 M_bound := fun h => ⟨h.1, d.M_bound h.2⟩
 M_move := fun hm h => ⟨h.1, d.M_move hm h.2⟩
 M_lower := fun hb h => ⟨h.1, d.M_lower hb h.2⟩
section
variable {α : Type} {d : Kd α} {e base s a b : Nat} {ok ok' : Nat → Prop} {w w1 : World} {v : Value} {xs : List α} {zs : List (α × List Value)}
def In (d : Kd α) (w : World) (base s : Nat) (zs : List (α × List Value)) : Prop :=
 ∃ J : Nat → Nat → Prop, (∀ i j k, J i k → J j k → i = j) ∧ (∀ j k, J j k → base ≤ k ∧ k < s) ∧ ∀ (j : Nat) (z : α × List Value), zs[j]? = some z → d.M w base (J j) z.1 z.2
theorem In_step (h : In d w base s zs) (hm : ∀ k, k < s → w1.heap[k]? = w.heap[k]?) : In d w1 base s zs := by
 obtain ⟨J, h1, h2, h3⟩ := h
 exact ⟨J, h1, h2, fun j z hz => d.M_move (fun k hk => hm k (h2 j k hk).2) (h3 j z hz)⟩
theorem S_cells (h : Kd.S d e w base ok v xs) : ∃ zs : List (α × List Value), xs = zs.map Prod.fst ∧ (cel d).R e w base ok v zs ∧ In d w base w.heap.size zs := by
 obtain ⟨f, h0, inner, ho, hr⟩ := h
 have hat : ∀ (j : Nat) (z : α × List Value), (xs.zipIdx.map fun p => (p.1, (inner.drop (p.2 * d.sz)).take d.sz))[j]? = some z → ∃ x, xs[j]? = some x ∧ z = (x, (inner.drop (j * d.sz)).take d.sz) := by
  intro j z hz
  rw [List.getElem?_map] at hz
  obtain ⟨p, hp, rfl⟩ := Option.map_eq_some_iff.1 hz
  rw [List.getElem?_zipIdx, Nat.zero_add] at hp
  obtain ⟨x, hx, rfl⟩ := Option.map_eq_some_iff.1 hp
  exact ⟨x, hx, rfl⟩
 refine ⟨xs.zipIdx.map fun p => (p.1, (inner.drop (p.2 * d.sz)).take d.sz), ?_, ⟨h0, inner, ?_, ?_, fun j z hz => ?_⟩, ⟨fun j k => ((ok k ∧ some k ≠ v.ownBlock) ∧ f k = j) ∧ base ≤ k ∧ k < w.heap.size, ?_, ?_, fun j z hz => ?_⟩⟩
 ·apply List.ext_getElem?
  intro j
  simp only [List.map_map, List.getElem?_map, List.getElem?_zipIdx, Nat.zero_add]
  cases xs[j]? <;> rfl
 ·rw [List.length_map]; exact ho
 ·rw [List.length_map]; exact hr.1
 ·obtain ⟨x, hx, rfl⟩ := hat j z hz
  exact ⟨rfl, d.M_mono (fun k hk => hk.1) (hr.2 j (x, j) (zip_at hx))⟩
 ·intro i j k hi hj
  rw [← hi.1.2, ← hj.1.2]
 ·exact fun j k hk => hk.2
 ·obtain ⟨x, hx, rfl⟩ := hat j z hz
  exact d.M_mono (fun k hk => ⟨hk.1, hk.2.1, hk.2.2.1⟩) (d.M_bound (hr.2 j (x, j) (zip_at hx)))
theorem In_cut (h : In d w base s zs) (ha : a ≤ zs.length) (hab : a ≤ b) : In d w base s (zs.take a ++ zs.drop b) := by
 obtain ⟨J, h1, h2, h3⟩ := h
 refine ⟨fun j k => if j < a then J j k else J (b + (j - a)) k, ?_, ?_, fun j z hz => ?_⟩
 ·intro i j k hi hj
  by_cases c1 : i < a <;> by_cases c2 : j < a
  ·rw [if_pos c1] at hi; rw [if_pos c2] at hj; exact h1 _ _ _ hi hj
  ·rw [if_pos c1] at hi; rw [if_neg c2] at hj; have := h1 _ _ _ hi hj; omega
  ·rw [if_neg c1] at hi; rw [if_pos c2] at hj; have := h1 _ _ _ hi hj; omega
  ·rw [if_neg c1] at hi; rw [if_neg c2] at hj; have := h1 _ _ _ hi hj; omega
 ·intro j k hk
  by_cases c1 : j < a
  ·rw [if_pos c1] at hk; exact h2 _ _ hk
  ·rw [if_neg c1] at hk; exact h2 _ _ hk
 ·have hl : (zs.take a).length = a := by rw [List.length_take]; omega
  by_cases c1 : j < a
  ·simp only [if_pos c1]
   rw [List.getElem?_append_left (by omega), List.getElem?_take, if_pos c1] at hz
   exact h3 j z hz
  ·simp only [if_neg c1]
   rw [List.getElem?_append_right (by omega), hl, List.getElem?_drop] at hz
   exact h3 _ z hz
theorem S_of_cells (h : N (cel d) e w base ok v zs) (hi : In d w base s zs) (hv : ∀ k, v.ownBlock = some k → s ≤ k) (hok : ∀ k, base ≤ k → ok' k) : Kd.S d e w base ok' v (zs.map Prod.fst) := by
 have hb := N_base h
 obtain ⟨_, rows, hl, ⟨_, inner, ho, hr⟩, hf⟩ := h
 obtain ⟨J, h1, h2, h3⟩ := hi
 have hlen : inner.length = (zs.map Prod.fst).length * d.sz := by rw [List.length_map, ← hl]; exact hr.1
 obtain ⟨f, ht⟩ := reps_tag (d := d) (w := w) (base := base) (ok := fun k => ok' k ∧ some k ≠ v.ownBlock) (xs := zs.map Prod.fst) (inner := inner) J h1
  (fun j k hk => ⟨hok k (h2 j k hk).1, fun he => by have := hv k he.symm; have := (h2 j k hk).2; omega⟩) hlen (fun j x hx => by
   rw [List.getElem?_map] at hx
   obtain ⟨z, hz, rfl⟩ := Option.map_eq_some_iff.1 hx
   have hjl : j < rows.length := by have := (List.getElem?_eq_some_iff.1 hz).1; omega
   have hrow := List.getElem?_eq_getElem hjl
   have hk := FK_now (hf j z _ hz hrow)
   have hc : (inner.drop (j * d.sz)).take d.sz = rows[j] := (hr.2 j _ hrow).1
   rw [hc, hk.1]
   exact h3 j z hz)
 exact ⟨f, fun k hk => hok k (hb k hk), inner, by rw [List.length_zipIdx, List.length_map, ← hl]; exact ho, ht⟩
end
end Kd
end Go.Proofs.YtpadhphdglbciaaW.PrintWords
