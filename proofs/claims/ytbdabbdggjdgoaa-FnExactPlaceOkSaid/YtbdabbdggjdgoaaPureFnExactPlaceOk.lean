/- The pure statement of the law 'FnExactPlaceOk': for every list of slots the law's function returns true, so the program's PlaceOk is the reference's (no other condition). -/
import Derived.Test.YtbdabbdggjdgoaaPFnExactPlaceOkx2
namespace Go.Proofs.Ytbdabbdggjdgoaa.Pure
open Go Go.RowKit Go.Proofs.Ytbdabbdggjdgoaa.PFnExactPlaceOk Go.Proofs.YtbdabbdggjdgoaaW.PrintWords Go.Proofs.YtbdabbdggjdgoaaW.PrintLast
set_option linter.unusedVariables false
set_option linter.unusedSimpArgs false

theorem w64 {n : Int} (h1 : -9223372036854775808 ≤ n) (h2 : n ≤ 9223372036854775807) : wrap64 n = n := by
  unfold wrap64; omega
theorem wnext {i n : Nat} (h : i < n) (hn : n ≤ 4611686018427387904) : wrap64 ((i : Int) + 1) = ((i + 1 : Nat) : Int) := by
  rw [w64 (by omega) (by omega)]; omega
/-- A loop that goes up to n, by rounds. -/
theorem loop_up {n : Nat} (Q : Nat → Nat → Prop) (last : ∀ k, Q (k + 1) n) (step : ∀ k i, i < n → Q k (i + 1) → Q (k + 1) i) : ∀ k i, i ≤ n → n - i < k → Q k i := by
  intro k
  induction k with
  | zero => intro i _ h; omega
  | succ k ih =>
    intro i hi hk
    by_cases h : i = n
    · subst h; exact last k
    · exact step k i (by omega) (ih (i + 1) (by omega) (by omega))
theorem drop_at {α : Type} {l : List α} {i : Nat} (d : α) (h : i < l.length) : l.drop i = l.getD ((i : Int)).toNat d :: l.drop (i + 1) := by
  rw [List.drop_eq_getElem_cons h, List.getD_eq_getElem?_getD]
  simp [h]
theorem range_at {i n : Nat} (h : i < n) : List.range' i (n - i) = i :: List.range' (i + 1) (n - (i + 1)) := by
  rw [show n - i = (n - (i + 1)) + 1 by omega, List.range'_succ]
theorem range_end (n : Nat) : List.range' n (n - n) = [] := by simp

theorem within_at (a b c : Int) : impl_within.f a b c = some (decide (b ≤ a ∧ a ≤ c)) := by
  unfold impl_within.f
  by_cases h : a ≥ b
  · rw [if_pos h]; congr 1; exact decide_eq_decide.mpr ⟨fun x => ⟨h, x⟩, fun x => x.2⟩
  · rw [if_neg h]; congr 1; exact (decide_eq_false fun x => h x.1).symm

theorem inRange_at (a b c : Int) : spec_inRange.f a b c = some (decide (b ≤ a ∧ a ≤ c)) := by
  unfold spec_inRange.f
  by_cases h : a ≥ b
  · rw [if_pos h]; congr 1; exact decide_eq_decide.mpr ⟨fun x => ⟨h, x⟩, fun x => x.2⟩
  · rw [if_neg h]; congr 1; exact (decide_eq_false fun x => h x.1).symm

def slotOk (x : S58) : Bool := decide (0 ≤ x.f0 ∧ x.f0 ≤ 3) && decide (0 ≤ x.f1 ∧ x.f1 ≤ 103)
theorem rd_slot {l : List S58} {i : Nat} (h : i < l.length) : l.drop i = rd_T58 l (i : Int) :: l.drop (i + 1) := drop_at z58 h
def plOk (l : List S58) : Bool := l.all slotOk && decide (l.length ≤ 20)

theorem validSlot_at (x : S58) : spec_validSlot.f x.f0 x.f1 = some (slotOk x) := by
  unfold spec_validSlot.f slotOk
  simp only [inRange_at, Option.bind_some]
  by_cases h : 0 ≤ x.f0 ∧ x.f0 ≤ 3 <;> simp [h]
theorem spec_place_l (l : List S58) (hl : l.length ≤ 4611686018427387904) : ∀ k i, i ≤ l.length → l.length - i < k → spec_validPlace.l0 k l (i : Int) = some ((l.drop i).all slotOk) := by
  refine loop_up (fun k i => spec_validPlace.l0 k l (i : Int) = some ((l.drop i).all slotOk)) ?_ ?_
  · intro k
    simp only [spec_validPlace.l0]
    rw [if_neg (by omega), List.drop_length]; rfl
  · intro k i hi ih
    simp only [spec_validPlace.l0]
    rw [if_pos (by omega), if_pos (by omega), validSlot_at, rd_slot hi]
    simp only [Option.bind_some, wnext hi hl, ih, List.all_cons]
    by_cases hg : slotOk (rd_T58 l (i : Int)) = true <;> simp [hg]
theorem spec_place_at (l : List S58) (hl : l.length ≤ 4611686018427387904) (k : Nat) (hk : l.length < k) : spec_validPlace.f k l = some (plOk l) := by
  have := spec_place_l l hl k 0 (by omega) (by omega)
  unfold spec_validPlace.f plOk
  by_cases h : (l.length : Int) > 20
  · rw [if_pos h, show decide (l.length ≤ 20) = false from decide_eq_false (by omega), Bool.and_false]
  · rw [if_neg h, show decide (l.length ≤ 20) = true from decide_eq_true (by omega), Bool.and_true]; exact this

theorem impl_place_l (l : List S58) (hl : l.length ≤ 4611686018427387904) : ∀ k i, i ≤ l.length → l.length - i < k → impl_PlaceOk.l0 k l l (l.length : Int) (i : Int) = some ((l.drop i).all slotOk && decide (l.length ≤ 20)) := by
  refine loop_up (fun k i => impl_PlaceOk.l0 k l l (l.length : Int) (i : Int) = some ((l.drop i).all slotOk && decide (l.length ≤ 20))) ?_ ?_
  · intro k
    simp only [impl_PlaceOk.l0]
    rw [if_neg (by omega), List.drop_length]
    simp only [List.all_nil, Bool.true_and]
    congr 1; exact decide_eq_decide.mpr (by omega)
  · intro k i hi ih
    simp only [impl_PlaceOk.l0]
    rw [if_pos (by omega), if_pos (by omega), if_pos (by omega), rd_slot hi]
    simp only [within_at, Option.bind_some, wnext hi hl, ih, List.all_cons, slotOk, decide_eq_true_eq]
    by_cases h0 : 0 ≤ (rd_T58 l (i : Int)).f0 ∧ (rd_T58 l (i : Int)).f0 ≤ 3
    · by_cases h1 : 0 ≤ (rd_T58 l (i : Int)).f1 ∧ (rd_T58 l (i : Int)).f1 ≤ 103
      · rw [if_pos h0, if_pos h1]; simp [h0, h1]
      · rw [if_pos h0, if_neg h1]; simp [h0, h1]
    · rw [if_neg h0]; simp [h0]
theorem impl_place_at (l : List S58) (hl : l.length ≤ 4611686018427387904) (k : Nat) (hk : l.length < k) : impl_PlaceOk.f k l = some (plOk l) := by
  have := impl_place_l l hl k 0 (by omega) (by omega)
  unfold impl_PlaceOk.f plOk
  exact this

def cSlot (x : S60) : S58 := ⟨x.f0, x.f1⟩
theorem rd_lslot {l : List S60} {i : Nat} (h : i < l.length) : l.drop i = rd_T60 l (i : Int) :: l.drop (i + 1) := drop_at z60 h
theorem set_mid {α : Type} (p : List α) (a b : α) (r : List α) (n : Nat) (h : n = p.length) : (p ++ a :: r).set n b = p ++ b :: r := by subst h; simp
theorem toSlotS_l (l : List S60) (hl : l.length ≤ 4611686018427387904) (z : S58) : ∀ k i, i ≤ l.length → l.length - i < k → ∀ p, p.length = i → laws_toSlotS.l0 k l (p ++ List.replicate (l.length - i) z) (i : Int) = some (p ++ (l.drop i).map cSlot) := by
  refine loop_up (fun k i => ∀ p, p.length = i → laws_toSlotS.l0 k l (p ++ List.replicate (l.length - i) z) (i : Int) = some (p ++ (l.drop i).map cSlot)) ?_ ?_
  · intro k p hp
    simp only [laws_toSlotS.l0]
    rw [if_neg (by omega)]; simp
  · intro k i hi ih p hp
    simp only [laws_toSlotS.l0, laws_toSlot.f]
    rw [if_pos (by omega), if_pos (by omega)]
    simp only [Option.bind_some]
    rw [if_pos (by simp; omega), show l.length - i = (l.length - (i + 1)) + 1 by omega, List.replicate_succ, set_mid _ _ _ _ _ (by omega), wnext hi hl]
    have := ih (p ++ [cSlot (rd_T60 l (i : Int))]) (by simp [hp])
    rw [List.append_assoc] at this
    rw [rd_lslot hi, List.map_cons, ← List.singleton_append, ← List.append_assoc p, List.append_assoc p]
    rw [List.append_assoc] at this
    exact this
theorem toSlotS_at (l : List S60) (hl : l.length ≤ 1048576) (k : Nat) (hk : l.length < k) : laws_toSlotS.f k l = some (l.map cSlot) := by
  unfold laws_toSlotS.f
  rw [if_pos (by omega), if_pos (by omega)]
  have := toSlotS_l l (by omega) z58 k 0 (by omega) (by omega) [] rfl
  simpa using this
theorem szSlotS_at (l : List S60) (n : Int) (hn : 0 ≤ n ∧ n ≤ 1048576) (hl : l.length ≤ maxLen) : ∃ r, laws_szSlotS.f l n = some r ∧ (0 ≤ r → r = n - l.length) ∧ r ≤ n := by
  have hm : l.length ≤ 9223372036854775807 := hl
  unfold laws_szSlotS.f
  rw [w64 (by omega) (by omega)]
  by_cases h : n - (l.length : Int) < 0
  · rw [if_pos h]; exact ⟨_, rfl, by omega, by omega⟩
  · rw [if_neg h]; exact ⟨_, rfl, by omega, by omega⟩

theorem eqSlot_refl (a b : Int) : laws_eqSlot.f a b a b = some true := by unfold laws_eqSlot.f; simp
theorem eqSlotS_l (l : List S58) (hl : l.length ≤ 4611686018427387904) : ∀ k i, i ≤ l.length → l.length - i < k → laws_eqSlotS.l0 k l l (i : Int) = some true := by
  refine loop_up (fun k i => laws_eqSlotS.l0 k l l (i : Int) = some true) ?_ ?_
  · intro k
    simp only [laws_eqSlotS.l0]
    rw [if_neg (by omega)]
  · intro k i hi ih
    simp only [laws_eqSlotS.l0]
    rw [if_pos (by omega), if_pos (by omega), if_pos (by omega), eqSlot_refl]
    simp only [Option.bind_some, wnext hi hl, ih, if_true]
theorem eqSlotS_refl (l : List S58) (hl : l.length ≤ 4611686018427387904) (k : Nat) (hk : l.length < k) : laws_eqSlotS.f k l l = some true := by
  unfold laws_eqSlotS.f
  rw [if_pos rfl]; exact eqSlotS_l l hl k 0 (by omega) (by omega)

def G60 (x : S60) : Prop := (Lit.int .i64 x.f0).wf = true ∧ ((Lit.int .i64 x.f1).wf = true)
/-- The pure statement: what is known of each argument is that it is a value of its type. -/
def PureFnExactPlaceOk : Prop := ∀ (l0 : List (S60)), l0.length ≤ maxLen → (∀ x ∈ l0, G60 x) → ∃ k, laws_FnExactPlaceOk.f k l0 = some true

theorem FnExactPlaceOk : PureFnExactPlaceOk := by
  intro l hl _
  obtain ⟨r, hr, h1, h2⟩ := szSlotS_at l 1048576 (by omega) hl
  refine ⟨1048577, ?_⟩
  unfold laws_FnExactPlaceOk.f
  simp only [hr, Option.bind_some]
  by_cases h : r < 0
  · rw [if_pos h]
  rw [if_neg h]
  have hk : l.length < 1048577 := by have := h1 (by omega); omega
  have hm : (l.map cSlot).length < 1048577 := by simpa using hk
  unfold spec_PlaceOk.f
  simp only [toSlotS_at l (by omega) _ hk, spec_place_at _ (show (l.map cSlot).length ≤ 4611686018427387904 by omega) _ hm, impl_place_at _ (show (l.map cSlot).length ≤ 4611686018427387904 by omega) _ hm, eqSlotS_refl _ (show (l.map cSlot).length ≤ 4611686018427387904 by omega) _ hm, Option.bind_some, if_true]
  simp

end Go.Proofs.Ytbdabbdggjdgoaa.Pure
