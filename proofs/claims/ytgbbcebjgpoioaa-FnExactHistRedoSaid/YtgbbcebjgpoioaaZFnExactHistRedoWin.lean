/- Words that the walks use (lines of the print; no condition). -/
import Derived.Test.YtgbbcebjgpoioaaZFnExactHistRedoWN
import Derived.Test.YtgbbcebjgpoioaaZFnExactHistRedoWMore
namespace Go.Proofs.YtgbbcebjgpoioaaW.PrintWords
set_option linter.unusedVariables false
open Go.RowKit
def Win (a b : Nat) (k : Nat) : Prop := a ≤ k ∧ k < b
theorem win_apart {a b a' b' : Nat} (h : b ≤ a' ∨ b' ≤ a) : ∀ k, Win a b k → ¬ Win a' b' k := fun _ h1 h2 => by
  have := h1.1; have := h1.2; have := h2.1; have := h2.2
  omega
theorem sz_alloc {s : Nat} {W : World} (h : s ≤ W.heap.size) (o : Obj) : s ≤ (W.alloc o).heap.size := Nat.le_trans h (below_alloc (Below.refl W.heap.size W) o).size
theorem sz_drew {s : Nat} {W : World} (h : s ≤ W.heap.size) : s ≤ W.drew.heap.size := h
theorem sz_drewN {s : Nat} {W : World} (h : s ≤ W.heap.size) (m : Nat) : s ≤ (W.drewN m).heap.size := h
theorem sz_below {s : Nat} {W W1 : World} (h : s ≤ W.heap.size) (hb : Below W.heap.size W W1) : s ≤ W1.heap.size := Nat.le_trans h hb.size
theorem sz_kept {s : Nat} {W W1 : World} {S : Nat → Prop} (h : s ≤ W.heap.size) (hb : Kept W W1 S) : s ≤ W1.heap.size := Nat.le_trans h hb.1
namespace Kd
section
variable {α : Type} {d : Kd α} {e base B a b a' b' s : Nat} {ok : Nat → Prop} {W W1 : World} {v : Value} {xs : List α} {A : Option Addr} {n : Nat}
theorem H_hole {g cap : Nat} {i : Int} {oki : Nat → Prop} {c : List Value} (h : H d e W base ok (.slice (some ⟨g, 0, none⟩) n cap) xs i oki c) (h0 : 0 ≤ i) (h1 : i < n) :
    (∀ j u, c[j]? = some u → W.cell? ⟨g, i.toNat * d.sz + j, none⟩ = some u) ∧ ∀ j, W.frozen? ⟨g, i.toNat * d.sz + j, none⟩ = false := by
  obtain ⟨rows, _, hraw, _, _, hcc, _⟩ := H_raw h h0 h1
  obtain ⟨_, _, _, _, hfr⟩ := R_elem hraw [] i h0 h1
  exact ⟨hcc, hfr⟩
end
end Kd
end Go.Proofs.YtgbbcebjgpoioaaW.PrintWords

