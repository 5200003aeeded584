/- The pure statement of the law 'FnExactValShow': for every value the law's function returns true, so the program's ValShow is the reference's (no other condition). -/
import Derived.Test.YthbodcpgdllegaaDoorQFnExactValShowx2
namespace Go.Proofs.YthbodcpgdllegaaDoor.Pure
open Go Go.RowKit Go.Proofs.YthbodcpgdllegaaDoor.PFnExactValShow Go.Proofs.YthbodcpgdllegaaDoorW.PrintWords Go.Proofs.YthbodcpgdllegaaDoorW.PrintLast
set_option linter.unusedVariables false
set_option linter.unusedSimpArgs false

theorem w64 {n : Int} (h1 : -9223372036854775808 ≤ n) (h2 : n ≤ 9223372036854775807) : wrap64 n = n := by
  unfold wrap64; omega
theorem wnext {i n : Nat} (h : i < n) (hn : n ≤ 4611686018427387904) : wrap64 ((i : Int) + 1) = ((i + 1 : Nat) : Int) := by
  rw [w64 (by omega) (by omega)]; omega
/-- A loop that goes up to n, by rounds. -/
theorem loop_up {n : Nat} (Q : Nat → Nat → Prop) (last : ∀ k, Q (k + 1) n) (step : ∀ k i, i < n → Q k (i + 1) → Q (k + 1) i) : ∀ k i, i ≤ n → n - i < k → Q k i := by
  intro k
  induction k with
  | zero => intro i _ h; omega
  | succ k ih =>
    intro i hi hk
    by_cases h : i = n
    · subst h; exact last k
    · exact step k i (by omega) (ih (i + 1) (by omega) (by omega))
theorem drop_at {α : Type} {l : List α} {i : Nat} (d : α) (h : i < l.length) : l.drop i = l.getD ((i : Int)).toNat d :: l.drop (i + 1) := by
  rw [List.drop_eq_getElem_cons h, List.getD_eq_getElem?_getD]
  simp [h]
theorem range_at {i n : Nat} (h : i < n) : List.range' i (n - i) = i :: List.range' (i + 1) (n - (i + 1)) := by
  rw [show n - i = (n - (i + 1)) + 1 by omega, List.range'_succ]
theorem range_end (n : Nat) : List.range' n (n - n) = [] := by simp
theorem bsome {α β : Type} (a : α) (f : α → Option β) : (some a).bind f = f a := by
  cases h : f a <;> simp [h]

theorem within_at (a b c : Int) : impl_within.f a b c = some (decide (b ≤ a ∧ a ≤ c)) := by
  unfold impl_within.f
  by_cases h : a ≥ b
  · rw [if_pos h]; congr 1; exact decide_eq_decide.mpr ⟨fun x => ⟨h, x⟩, fun x => x.2⟩
  · rw [if_neg h]; congr 1; exact (decide_eq_false fun x => h x.1).symm

theorem inRange_at (a b c : Int) : spec_inRange.f a b c = some (decide (b ≤ a ∧ a ≤ c)) := by
  unfold spec_inRange.f
  by_cases h : a ≥ b
  · rw [if_pos h]; congr 1; exact decide_eq_decide.mpr ⟨fun x => ⟨h, x⟩, fun x => x.2⟩
  · rw [if_neg h]; congr 1; exact (decide_eq_false fun x => h x.1).symm

def Good (c : Int) : Prop := (97 ≤ c ∧ c ≤ 122) ∨ (48 ≤ c ∧ c ≤ 57) ∨ c = 32
instance (c : Int) : Decidable (Good c) := by unfold Good; exact inferInstance
def goodsFrom (s : ByteArray) (i : Nat) : Bool := (List.range' i (s.size - i)).all fun j => decide (Good (bt s j))
theorem goods_at {s : ByteArray} {i : Nat} (h : i < s.size) : goodsFrom s i = (decide (Good (bt s i)) && goodsFrom s (i + 1)) := by
  unfold goodsFrom; rw [range_at h]; rfl
theorem goods_end (s : ByteArray) : goodsFrom s s.size = true := by
  unfold goodsFrom; rw [range_end]; rfl
def wordOk (s : ByteArray) : Bool := goodsFrom s 0 && decide (s.size ≤ 12)
theorem impl_word_l (s : ByteArray) (hs : s.size ≤ 4611686018427387904) : ∀ k i, i ≤ s.size → s.size - i < k → impl_word.l0 k s (i : Int) = some (goodsFrom s i && decide (s.size ≤ 12)) := by
  refine loop_up (fun k i => impl_word.l0 k s (i : Int) = some (goodsFrom s i && decide (s.size ≤ 12))) ?_ ?_
  · intro k
    simp only [impl_word.l0]
    rw [if_neg (by omega), goods_end, Bool.true_and]
    congr 1; exact decide_eq_decide.mpr (by omega)
  · intro k i hi ih
    have e : impl_word.l0 (k + 1) s (i : Int) = if Good (bt s i) then impl_word.l0 k s (wrap64 ((i : Int) + 1)) else some false := by
      simp only [impl_word.l0]
      rw [if_pos (by omega), if_pos (by omega)]
      by_cases hg : Good (bt s i)
      · rw [if_pos hg]; unfold Good at hg
        repeat' split
        all_goals first
          | rfl
          | (exfalso; omega)
      · rw [if_neg hg]; unfold Good at hg
        repeat' split
        all_goals first
          | rfl
          | (exfalso; omega)
    rw [e, wnext hi hs, ih, goods_at hi]
    by_cases hg : Good (bt s i) <;> simp [hg]
theorem impl_word_at (s : ByteArray) (hs : s.size ≤ 4611686018427387904) (k : Nat) (hk : s.size < k) : impl_word.f k s = some (wordOk s) := by
  have := impl_word_l s hs k 0 (by omega) (by omega)
  unfold impl_word.f wordOk
  exact this

theorem plain_at (c : Int) : spec_plainByte.f c = some (decide (Good c)) := by
  unfold spec_plainByte.f
  by_cases hg : Good c
  · rw [decide_eq_true hg]; unfold Good at hg
    repeat' split
    all_goals first
      | rfl
      | (congr 1; exact beq_iff_eq.mpr (by omega))
      | (exfalso; omega)
  · rw [decide_eq_false hg]; unfold Good at hg
    repeat' split
    all_goals first
      | rfl
      | (congr 1; exact beq_eq_false_iff_ne.mpr (by omega))
      | (exfalso; omega)
theorem spec_word_l (s : ByteArray) (hs : s.size ≤ 4611686018427387904) : ∀ k i, i ≤ s.size → s.size - i < k → spec_validWord.l0 k s (i : Int) = some (goodsFrom s i) := by
  refine loop_up (fun k i => spec_validWord.l0 k s (i : Int) = some (goodsFrom s i)) ?_ ?_
  · intro k
    simp only [spec_validWord.l0]
    rw [if_neg (by omega), goods_end]
  · intro k i hi ih
    simp only [spec_validWord.l0]
    rw [if_pos (by omega), if_pos (by omega), plain_at, goods_at hi]
    simp only [Option.bind_some, wnext hi hs, ih]
    by_cases hg : Good (bt s i) <;> simp [hg]
theorem spec_word_at (s : ByteArray) (hs : s.size ≤ 4611686018427387904) (k : Nat) (hk : s.size < k) : spec_validWord.f k s = some (wordOk s) := by
  have := spec_word_l s hs k 0 (by omega) (by omega)
  unfold spec_validWord.f wordOk
  by_cases h : (s.size : Int) > 12
  · rw [if_pos h, show decide (s.size ≤ 12) = false from decide_eq_false (by omega), Bool.and_false]
  · rw [if_neg h, show decide (s.size ≤ 12) = true from decide_eq_true (by omega), Bool.and_true]; exact this

def vOk (a b : Int) (s : ByteArray) : Bool :=
  if a = 0 then (if b = 0 then s.toList == ([] : List UInt8) else false)
  else if a = 1 then (if -1000 ≤ b ∧ b ≤ 1000 then s.toList == ([] : List UInt8) else false)
  else if a = 2 then (if b = 0 then wordOk s else false) else false
theorem impl_valOk_at (a b : Int) (s : ByteArray) (hs : s.size ≤ 4611686018427387904) (k : Nat) (hk : s.size < k) : impl_ValOk.f k a b s = some (vOk a b s) := by
  unfold impl_ValOk.f vOk
  simp only [within_at, impl_word_at s hs k hk, Option.bind_some, decide_eq_true_eq]
  repeat' split
  all_goals rfl

theorem spec_val_at (a b : Int) (s : ByteArray) (hs : s.size ≤ 4611686018427387904) (k : Nat) (hk : s.size < k) : spec_validValue.f k a b s = some (vOk a b s) := by
  unfold spec_validValue.f vOk
  simp only [inRange_at, spec_word_at s hs k hk, Option.bind_some, decide_eq_true_eq]
  repeat' split
  all_goals rfl

def itoaB (n : Int) : ByteArray := ⟨(Lib.itoa n).toArray⟩
theorem bytes_append (x y : List UInt8) : (⟨x.toArray⟩ ++ ⟨y.toArray⟩ : ByteArray) = ⟨(x ++ y).toArray⟩ := ByteArray.ext (by simp [ByteArray.data_append])
theorem bytes_size (x : List UInt8) : (⟨x.toArray⟩ : ByteArray).size = x.length := by show x.toArray.size = _; simp
theorem decDigits_le (u : Nat) : (Lib.decDigits u).length ≤ u + 1 := by
  induction u using Nat.strongRecOn with
  | ind u ih =>
    rw [Lib.decDigits]
    by_cases h : u < 10
    · rw [dif_pos h]; simp
    · rw [dif_neg h, List.length_append]
      have := ih (u / 10) (by omega)
      simp only [List.length_singleton]; omega

theorem digit_piece : ∀ u : Nat, u < 10 → (⟨#[48, 49, 50, 51, 52, 53, 54, 55, 56, 57]⟩ : ByteArray).extract u (u + 1) = ⟨(Lib.decDigits u).toArray⟩ := by
  intro u hu
  rw [Lib.decDigits_one hu]
  have : u = 0 ∨ u = 1 ∨ u = 2 ∨ u = 3 ∨ u = 4 ∨ u = 5 ∨ u = 6 ∨ u = 7 ∨ u = 8 ∨ u = 9 := by omega
  rcases this with rfl | rfl | rfl | rfl | rfl | rfl | rfl | rfl | rfl | rfl <;> first | rfl | decide
theorem decimal_nat : ∀ (k u : Nat), u ≤ 100000 → u < k → spec_decimal.f k (u : Int) = some ⟨(Lib.decDigits u).toArray⟩ := by
  intro k
  induction k with
  | zero => intro u _ h; omega
  | succ k ih =>
    intro u hu hk
    simp only [spec_decimal.f]
    rw [if_neg (show ¬ (u : Int) < 0 by omega)]
    by_cases h : u < 10
    · have hw : wrap64 ((u : Int) + 1) = ((u + 1 : Nat) : Int) := by rw [w64 (by omega) (by omega)]; omega
      rw [hw, if_pos (show (u : Int) < 10 by omega), if_pos (show (0 : Int) ≤ (u : Int) by omega), if_pos (show (u : Int) ≤ ((u + 1 : Nat) : Int) by omega), if_pos (show ((u + 1 : Nat) : Int) ≤ 10 by omega)]
      rw [show ((u : Int)).toNat = u by omega, show (((u + 1 : Nat) : Int)).toNat = u + 1 by omega, digit_piece u h]
    · have e1 : wrap64 (Int.tdiv (u : Int) 10) = ((u / 10 : Nat) : Int) := by
        have : Int.tdiv (u : Int) 10 = ((u / 10 : Nat) : Int) := rfl
        rw [this, w64 (by omega) (by omega)]
      have e2 : Int.tmod (u : Int) 10 = ((u % 10 : Nat) : Int) := rfl
      rw [if_neg (show ¬ (u : Int) < 10 by omega), e1, e2, ih (u / 10) (by omega) (by omega), bsome, ih (u % 10) (by omega) (by omega), bsome]
      have l1 := decDigits_le (u / 10)
      have l2 := decDigits_le (u % 10)
      rw [bytes_size, bytes_size, if_pos (by omega), bytes_append]
      have : Lib.decDigits u = Lib.decDigits (u / 10) ++ Lib.decDigits (u % 10) := by
        conv => lhs; rw [Lib.decDigits, dif_neg h]
        rw [Lib.decDigits_one (i := u % 10) (by omega)]
      rw [this]
theorem decimal_at (n : Int) (h : -1000 ≤ n ∧ n ≤ 1000) (k : Nat) (hk : 1002 < k) : spec_decimal.f k n = some (itoaB n) := by
  unfold itoaB Lib.itoa
  by_cases hn : n < 0
  · obtain ⟨k, rfl⟩ : ∃ q, k = q + 1 := ⟨k - 1, by omega⟩
    simp only [spec_decimal.f]
    rw [if_pos hn, if_pos hn, w64 (by omega) (by omega), show -n = ((n.natAbs : Nat) : Int) by omega, decimal_nat k n.natAbs (by omega) (by omega), bsome]
    have l1 := decDigits_le n.natAbs
    rw [bytes_size, if_pos (by omega)]
    have e : (⟨#[45]⟩ : ByteArray) = ⟨([45] : List UInt8).toArray⟩ := rfl
    rw [e, bytes_append]; rfl
  · rw [if_neg hn]
    have := decimal_nat k n.toNat (by omega) (by omega)
    rw [show ((n.toNat : Nat) : Int) = n by omega] at this
    exact this

/-- What is shown of a value. -/
def shw (a b : Int) (s : ByteArray) : ByteArray := if a = 1 then itoaB b else if a = 2 then s else ⟨#[]⟩
theorem itoaB_size (b : Int) (h : -1000 ≤ b ∧ b ≤ 1000) : (itoaB b).size ≤ 1002 := by
  unfold itoaB
  rw [bytes_size]
  unfold Lib.itoa
  split
  · have := decDigits_le b.natAbs; simp only [List.length_cons]; omega
  · have := decDigits_le b.toNat; omega
theorem vOk_num {a b : Int} {s : ByteArray} (h : vOk a b s = true) (ha : a = 1) : -1000 ≤ b ∧ b ≤ 1000 := by
  subst ha
  unfold vOk at h
  rw [if_neg (by decide), if_pos rfl] at h
  by_cases hb : -1000 ≤ b ∧ b ≤ 1000
  · exact hb
  · rw [if_neg hb] at h; cases h
theorem shw_size {a b : Int} {s : ByteArray} (h : vOk a b s = true) : (shw a b s).size ≤ 1002 + s.size := by
  unfold shw
  split
  · rename_i e; have := itoaB_size b (vOk_num h e); omega
  · split
    · omega
    · show 0 ≤ _; omega
def shown (a b : Int) (s : ByteArray) : ByteArray := if vOk a b s = true then shw a b s else ⟨#[]⟩
theorem itoa_f (b : Int) (h : -1000 ≤ b ∧ b ≤ 1000) : strconv_Itoa.f b = some (itoaB b) := by
  unfold strconv_Itoa.f itoaB
  rw [if_pos (by omega)]
theorem vOk_kinds {a b : Int} {s : ByteArray} (h : vOk a b s = true) : a = 0 ∨ a = 1 ∨ a = 2 := by
  unfold vOk at h
  by_cases e0 : a = 0
  · exact .inl e0
  by_cases e1 : a = 1
  · exact .inr (.inl e1)
  by_cases e2 : a = 2
  · exact .inr (.inr e2)
  rw [if_neg e0, if_neg e1, if_neg e2] at h; cases h
theorem impl_show_at (a b : Int) (s : ByteArray) (hs : s.size ≤ 4611686018427387904) (k : Nat) (hk : s.size + 1 < k) : impl_ValShow.f k a b s = some (shown a b s) := by
  unfold impl_ValShow.f shown
  rw [impl_valOk_at a b s hs k (by omega), bsome]
  obtain ⟨k, rfl⟩ : ∃ q, k = q + 1 := ⟨k - 1, by omega⟩
  by_cases h : vOk a b s = true
  · rw [if_pos h, if_pos h]
    simp only [impl_ValShow.j0]
    unfold shw
    rcases vOk_kinds h with e | e | e
    · subst e; rfl
    · rw [if_neg (by subst e; decide), if_pos e, itoa_f b (vOk_num h e), bsome, if_pos e]
    · rw [if_neg (by subst e; decide), if_neg (by omega), if_neg (by omega), if_pos e]
  · rw [if_neg h, if_neg h]
    simp only [impl_ValShow.j0]; rfl

theorem spec_show_at (a b : Int) (s : ByteArray) (h : vOk a b s = true) (k : Nat) (hk : 1002 < k) : spec_show.f k a b s = some (shw a b s) := by
  unfold spec_show.f shw
  by_cases e : a = 1
  · rw [if_pos e, if_pos e, decimal_at b (vOk_num h e) k hk, bsome]
  · rw [if_neg e, if_neg e]
    by_cases e2 : a = 2
    · rw [if_pos e2, if_pos e2]
    · rw [if_neg e2, if_neg e2]


theorem spec_ValShow_at (a b : Int) (s : ByteArray) (hs : s.size ≤ 4611686018427387904) (k : Nat) (hk : s.size + 1003 < k) : spec_ValShow.f k a b s = some (shown a b s) := by
  unfold spec_ValShow.f shown
  rw [spec_val_at a b s hs k (by omega), bsome]
  by_cases h : vOk a b s = true
  · rw [if_pos h, if_pos h, spec_show_at a b s h k (by omega), bsome]
  · rw [if_neg h, if_neg h]

def G23 (x : (Int) × (Int) × ByteArray) : Prop := (Lit.int .i64 x.1).wf = true ∧ ((Lit.int .i64 x.2.1).wf = true ∧ (x.2.2.size ≤ maxLen))
/-- The pure statement: what is known of each argument is that it is a value of its type. -/
def PureFnExactValShow : Prop := ∀ (a0 : (Int) × (Int) × ByteArray), G23 a0 → ∃ k, laws_FnExactValShow.f k a0.1 a0.2.1 a0.2.2 = some true

theorem FnExactValShow : PureFnExactValShow := by
  rintro ⟨a, b, s⟩ ⟨-, -, hs⟩
  have hm : s.size ≤ 9223372036854775807 := hs
  simp only
  obtain ⟨k, hk⟩ : ∃ k : Nat, k = 8388608 := ⟨_, rfl⟩
  refine ⟨k, ?_⟩
  unfold laws_FnExactValShow.f laws_szValue.f laws_toValue.f
  rw [w64 (by omega) (by omega)]
  by_cases h : 1048576 - (s.size : Int) < 0
  · rw [if_pos h, bsome]; rfl
  · rw [if_neg h, bsome, if_neg h, bsome]
    show Option.bind (spec_ValShow.f k a b s) _ = _
    rw [spec_ValShow_at a b s (by omega) k (by omega), bsome, bsome]
    show Option.bind (impl_ValShow.f k a b s) _ = _
    rw [impl_show_at a b s (by omega) k (by omega), bsome, if_pos rfl]

end Go.Proofs.YthbodcpgdllegaaDoor.Pure
