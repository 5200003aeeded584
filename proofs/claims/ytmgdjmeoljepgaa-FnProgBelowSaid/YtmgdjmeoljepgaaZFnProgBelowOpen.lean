/- How an argument of a struct type, or a slice of such, reads: from a reading of its cells to a value of the kind that the walks use (no condition). -/
import Derived.Deep.Slices
import Derived.ChangeArms
import Derived.Test.YtmgdjmeoljepgaaZFnProgBelowWMore
namespace Go.Proofs.Ytmgdjmeoljepgaa.Opens
open Go Go.ChangeShapes Go.WideShapes Go.Deep Go.Proofs.YtmgdjmeoljepgaaW.PrintWords
set_option linter.unusedVariables false
set_option linter.unusedSimpArgs false
section
variable {H : Type} {enc : TypeId × Value → H} {P : Program} {w : World} {base : Nat} {spare : Nat → Bool} {held : Bool}
def Opn (enc : TypeId × Value → H) (P : Program) (w : World) (base : Nat) (spare : Nat → Bool) (held : Bool) {α : Type} (t : TypeId) (d : Kd α) (G : α → Prop) : Prop :=
 ∀ (fuel : Nat) (cs : List Value) (x : DataW H × List MemPlace), DataW.trod enc P w base spare held fuel t cs = some x → ∃ v, d.K w v cs ∧ G v
theorem op_int {t : TypeId} {k : IntKind} (ht : P.underlying t = some (.int k)) : Opn enc P w base spare held t (Kd.int k) (fun n => (Lit.int k n).wf = true) := by
 intro fuel cs x h
 cases fuel with
 | zero => simp [DataW.trod] at h
 | succ n =>
  unfold DataW.trod at h
  rw [ht] at h
  split at h <;> simp_all
  ·obtain ⟨⟨rfl, hw⟩, _⟩ := h
   exact ⟨_, rfl, hw⟩
theorem op_slice {α : Type} {t e : TypeId} {d : Kd α} {G : α → Prop} (q : Nat) (ht : P.underlying t = some (.slice e)) (hc : P.cellsOf e = d.sz) (h0 : Opn enc P w base spare held e d G) :
  Opn enc P w base spare held t (Kd.slice q d) (fun l => l.length ≤ maxLen ∧ ∀ x ∈ l, G x) := by
 intro fuel cs x h
 rcases open_slice ht h with ⟨rfl, _⟩ | ⟨a, len, cap, m, n, D, Pl, rfl, hb, hl, hm, hmm, rfl, hx⟩
 ·exact ⟨[], ⟨none, 0, rfl, Nat.le_refl _, rfl, by simp, fun hp => absurd hp (by simp)⟩, by simp, by simp⟩
 ·have hlm : len ≤ m := by rw [hmm]; split <;> omega
  have key : ∀ j, j ≤ len → ∃ l : List α, l.length = j ∧ (∀ i p, l[i]? = some p → ∃ c, c.length = d.sz ∧ d.K w p c ∧ ∀ i' u, c[i']? = some u → w.cell? (a.add (i * d.sz + i')) = some u) ∧ ∀ p ∈ l, G p := by
   intro j
   induction j with
   | zero => intro _; exact ⟨[], rfl, by simp, by simp⟩
   | succ j ih =>
    intro hj
    obtain ⟨l, hlen, hr, hg⟩ := ih (by omega); obtain ⟨cs', h1, h2⟩ := hx j (by omega); obtain ⟨v, hK, hG⟩ := h0 _ _ _ h2; rw [hc] at h1; obtain ⟨_, hcl, hcell⟩ := World.cells?_some h1
    refine ⟨l ++ [v], by simp [hlen], fun i p hp => ?_, fun p hp => ?_⟩
    ·by_cases hi : i < l.length
     ·rw [List.getElem?_append_left hi] at hp
      exact hr i p hp
     ·rw [List.getElem?_append_right (by omega)] at hp
      have hi' : i - l.length = 0 := by
       by_cases hz : i - l.length = 0
       ·exact hz
       ·rw [List.getElem?_eq_none (by simp; omega)] at hp; cases hp
      rw [hi'] at hp
      have he : i = j := by omega
      have hv : v = p := by simpa using hp
      subst hv
      refine ⟨cs', hcl, hK, fun i' u hu => ?_⟩
      have hlt : i' < cs'.length := by
       by_cases hz : i' < cs'.length
       ·exact hz
       ·rw [List.getElem?_eq_none (by omega)] at hu; cases hu
      have := hcell i' (by omega); rw [Go.Deep.add_add] at this; rw [he, this, hu]
    ·rcases List.mem_append.1 hp with hp | hp
     ·exact hg p hp
     ·rw [List.mem_singleton.1 hp]; exact hG
  obtain ⟨l, hlen, hr, hg⟩ := key len (Nat.le_refl _); have hmax : cap ≤ 9223372036854775807 := hm
  refine ⟨l, ⟨some a, cap, by rw [hlen], by omega, rfl, by omega, fun _ => ⟨a, rfl, hr⟩⟩, ?_, hg⟩
  show l.length ≤ 9223372036854775807
  omega
end
section
variable {H : Type} {enc : TypeId × Value → H} {P : Program} {w : World}
theorem came_slice {α : Type} {t e q : TypeId} {r : Reach} {b : Nat} {d : Kd α} {G : List α → Prop} {v : Value} {x : DataW H} {ps : List MemPlace} (ht : P.underlying t = some (.slice e)) (hv : Value.okWide P w r b t v)
  (h : Opn enc P w 0 (fun _ => true) true t (Kd.slice q d) G) (hx : DataW.Trod enc P w 0 (fun _ => true) true t v x ps) :
  ∃ A c l, v = .slice A l.length c ∧ l.length ≤ c ∧ d.C w A l.length l ∧ G l := by
 obtain ⟨a, len, cap, rfl⟩ := okWide_slice ht hv; obtain ⟨fuel, hf⟩ := hx; obtain ⟨l, ⟨A, c, he, hl, hC⟩, hG⟩ := h _ _ _ hf
 simp [Value.cells] at he
 obtain ⟨rfl, rfl, rfl⟩ := he
 exact ⟨_, _, l, rfl, hl, hC, hG⟩
end
end Go.Proofs.Ytmgdjmeoljepgaa.Opens
