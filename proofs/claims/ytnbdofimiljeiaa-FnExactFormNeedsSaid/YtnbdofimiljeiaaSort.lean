/- The library's slices.Sort of ints in the form that the walks ask of a function that writes a row of the call's own: the row holds the same numbers in order. -/
import Derived.Test.YtnbdofimiljeiaaShelf
import Derived.Sort.OwnSortedInts
import Derived.Test.YtnbdofimiljeiaaWLast
import Derived.Test.YtnbdofimiljeiaaWKept
namespace Go.Proofs.YtnbdofimiljeiaaW.PrintWords
open Go Go.RowKit Go.Sort
/-- What slices.Sort makes of ints. -/
def slices_Sort_int_int.f (l : List Int) : Option (List Int) := if l.length < 4611686018427387904 then some (l.mergeSort fun x y => decide (x ≤ y)) else none
theorem slices_Sort_int_int.calls (P0_ : Nat → Prop) (u9000_ : Value) (l0 : List Int) (r : List Int) (w0 w : World) (hB : Below w0.heap.size w0 w) (ho0 : Kd.R (Kd.int .i64) 3 w w0.heap.size P0_ u9000_ l0) (h : slices_Sort_int_int.f l0 = some r) :
    Calls Try.prog 30 #[u9000_] w fun e w' => e = .returned (.tuple #[]) ∧ Kd.R (Kd.int .i64) 3 w' w0.heap.size (fun k_ => (P0_ k_ ∨ w.heap.size ≤ k_)) u9000_ r ∧ Below w0.heap.size w0 w' ∧ Kept w w' (fun k_ => P0_ k_) := by
  unfold slices_Sort_int_int.f at h
  split at h
  · rename_i hlen
    obtain rfl := Option.some.inj h
    have hrow : w.ownsRow w0.heap.size 3 1 u9000_ l0.length (l0.map (Value.int .i64)) := Kd.own_of_R ho0
    rcases hrow.2 with ⟨hnil, hz⟩ | ⟨g, cap, cur, rfl, hbase, hb, h1, h2, h3, h4⟩
    · obtain rfl : l0 = [] := List.length_eq_zero_iff.1 hz
      subst hnil
      refine (Try.slices_Sort_int_none none 0 w).mono fun e w' ⟨he, hw⟩ => ?_
      subst hw
      refine ⟨he, ?_, hB, Nat.le_refl _, fun _ _ _ => rfl⟩
      simp only [List.mergeSort_nil]
      exact Kd.R_mono ho0 (fun k_ hk => (.inl hk))
    · refine (Try.slices_Sort_int g 0 cap l0 w (holds_of_blockI hb (by simpa using h4)) (Array.getElem?_eq_some_iff.1 hb).1 hlen).mono fun e w' ⟨he, n, os, hw⟩ => ?_
      subst hw
      have hl : (l0.mergeSort fun x y => decide (x ≤ y)).length = l0.length := List.length_mergeSort _
      have hg := grownBy_sortedI (w := w) (g := g) (n := n) (os := os) (l0.mergeSort fun x y => decide (x ≤ y)).toArray
      have ho := ownsRow_sortedI (n := n) (os := os) hl hbase hb h1 h2 h3
      have hP : P0_ g := ho0.1 g rfl
      refine ⟨he, ?_, ?_, hg.size, fun i hi hne => hg.block i hi (fun e_ => hne ((Option.some.inj e_) ▸ hP))⟩
      · have ho' : (grow (putRow (Value.int .i64) (Sort.ahead w n) g 0 (l0.mergeSort fun x y => decide (x ≤ y)).toArray) os).ownsRow w0.heap.size 3 1 (.slice (some ⟨g, 0, none⟩) l0.length cap) (l0.mergeSort fun x y => decide (x ≤ y)).length ((l0.mergeSort fun x y => decide (x ≤ y)).map (Value.int .i64)) := by rw [hl]; exact ho
        exact Kd.R_of_own ho' (fun k hk => .inl (by obtain rfl := Option.some.inj hk; exact hP))
      · exact Below.grown hB hg (below_size hB) (fun k hk => by obtain rfl := Option.some.inj hk; exact hbase)
  · cases h
end Go.Proofs.YtnbdofimiljeiaaW.PrintWords
