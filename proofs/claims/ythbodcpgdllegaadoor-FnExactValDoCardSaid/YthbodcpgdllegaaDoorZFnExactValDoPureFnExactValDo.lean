/- The pure statement of the law 'FnExactValDo': for every operator and all values the law's function returns true, so the program's ValDo is the reference's (no other condition). -/
import Derived.Test.YthbodcpgdllegaaDoorZFnExactValDoQFnExactValDox6
namespace Go.Proofs.YthbodcpgdllegaaDoor.Pure
open Go Go.RowKit Go.Proofs.YthbodcpgdllegaaDoor.PFnExactValDo Go.Proofs.YthbodcpgdllegaaDoorW.PrintWords Go.Proofs.YthbodcpgdllegaaDoorW.PrintLast
set_option linter.unusedVariables false
set_option linter.unusedSimpArgs false
theorem w64 {n : Int} (h1 : -9223372036854775808 ≤ n) (h2 : n ≤ 9223372036854775807) : wrap64 n = n := by
 unfold wrap64; omega
theorem wnext {i n : Nat} (h : i < n) (hn : n ≤ 4611686018427387904) : wrap64 ((i : Int) + 1) = ((i + 1 : Nat) : Int) := by
 rw [w64 (by omega) (by omega)]; omega
theorem loop_up {n : Nat} (Q : Nat → Nat → Prop) (last : ∀ k, Q (k + 1) n) (step : ∀ k i, i < n → Q k (i + 1) → Q (k + 1) i) : ∀ k i, i ≤ n → n - i < k → Q k i := by
 intro k
 induction k with
 | zero => intro i _ h; omega
 | succ k ih =>
  intro i hi hk
  by_cases h : i = n
  ·subst h; exact last k
  ·exact step k i (by omega) (ih (i + 1) (by omega) (by omega))
theorem drop_at {α : Type} {l : List α} {i : Nat} (d : α) (h : i < l.length) : l.drop i = l.getD ((i : Int)).toNat d :: l.drop (i + 1) := by
 rw [List.drop_eq_getElem_cons h, List.getD_eq_getElem?_getD]
 simp [h]
theorem range_at {i n : Nat} (h : i < n) : List.range' i (n - i) = i :: List.range' (i + 1) (n - (i + 1)) := by
 rw [show n - i = (n - (i + 1)) + 1 by omega, List.range'_succ]
theorem range_end (n : Nat) : List.range' n (n - n) = [] := by simp
theorem bsome {α β : Type} (a : α) (f : α → Option β) : (some a).bind f = f a := by
 cases h : f a <;> simp [h]
theorem within_at (a b c : Int) : impl_within.f a b c = some (decide (b ≤ a ∧ a ≤ c)) := by
 unfold impl_within.f
 by_cases h : a ≥ b
 ·rw [if_pos h]; congr 1; exact decide_eq_decide.mpr ⟨fun x => ⟨h, x⟩, fun x => x.2⟩
 ·rw [if_neg h]; congr 1; exact (decide_eq_false fun x => h x.1).symm
theorem inRange_at (a b c : Int) : spec_inRange.f a b c = some (decide (b ≤ a ∧ a ≤ c)) := by
 unfold spec_inRange.f
 by_cases h : a ≥ b
 ·rw [if_pos h]; congr 1; exact decide_eq_decide.mpr ⟨fun x => ⟨h, x⟩, fun x => x.2⟩
 ·rw [if_neg h]; congr 1; exact (decide_eq_false fun x => h x.1).symm
def Good (c : Int) : Prop := (97 ≤ c ∧ c ≤ 122) ∨ (48 ≤ c ∧ c ≤ 57) ∨ c = 32
instance (c : Int) : Decidable (Good c) := by unfold Good; exact inferInstance
def goodsFrom (s : ByteArray) (i : Nat) : Bool := (List.range' i (s.size - i)).all fun j => decide (Good (bt s j))
theorem goods_at {s : ByteArray} {i : Nat} (h : i < s.size) : goodsFrom s i = (decide (Good (bt s i)) && goodsFrom s (i + 1)) := by
 unfold goodsFrom; rw [range_at h]; rfl
theorem goods_end (s : ByteArray) : goodsFrom s s.size = true := by
 unfold goodsFrom; rw [range_end]; rfl
def wordOk (s : ByteArray) : Bool := goodsFrom s 0 && decide (s.size ≤ 12)
theorem impl_word_l (s : ByteArray) (hs : s.size ≤ 4611686018427387904) : ∀ k i, i ≤ s.size → s.size - i < k → impl_word.l0 k s (i : Int) = some (goodsFrom s i && decide (s.size ≤ 12)) := by
 refine loop_up (fun k i => impl_word.l0 k s (i : Int) = some (goodsFrom s i && decide (s.size ≤ 12))) ?_ ?_
 ·intro k
  simp only [impl_word.l0]
  rw [if_neg (by omega), goods_end, Bool.true_and]
  congr 1; exact decide_eq_decide.mpr (by omega)
 ·intro k i hi ih
  have e : impl_word.l0 (k + 1) s (i : Int) = if Good (bt s i) then impl_word.l0 k s (wrap64 ((i : Int) + 1)) else some false := by
   simp only [impl_word.l0]
   rw [if_pos (by omega), if_pos (by omega)]
   by_cases hg : Good (bt s i)
   ·rw [if_pos hg]; unfold Good at hg
    repeat' split
    all_goals first
     | rfl
     | (exfalso; omega)
   ·rw [if_neg hg]; unfold Good at hg
    repeat' split
    all_goals first
     | rfl
     | (exfalso; omega)
  rw [e, wnext hi hs, ih, goods_at hi]
  by_cases hg : Good (bt s i) <;> simp [hg]
theorem impl_word_at (s : ByteArray) (hs : s.size ≤ 4611686018427387904) (k : Nat) (hk : s.size < k) : impl_word.f k s = some (wordOk s) := by
 have := impl_word_l s hs k 0 (by omega) (by omega)
 unfold impl_word.f wordOk
 exact this
theorem plain_at (c : Int) : spec_plainByte.f c = some (decide (Good c)) := by
 unfold spec_plainByte.f
 by_cases hg : Good c
 ·rw [decide_eq_true hg]; unfold Good at hg
  repeat' split
  all_goals first
   | rfl
   | (congr 1; exact beq_iff_eq.mpr (by omega))
   | (exfalso; omega)
 ·rw [decide_eq_false hg]; unfold Good at hg
  repeat' split
  all_goals first
   | rfl
   | (congr 1; exact beq_eq_false_iff_ne.mpr (by omega))
   | (exfalso; omega)
theorem spec_word_l (s : ByteArray) (hs : s.size ≤ 4611686018427387904) : ∀ k i, i ≤ s.size → s.size - i < k → spec_validWord.l0 k s (i : Int) = some (goodsFrom s i) := by
 refine loop_up (fun k i => spec_validWord.l0 k s (i : Int) = some (goodsFrom s i)) ?_ ?_
 ·intro k
  simp only [spec_validWord.l0]
  rw [if_neg (by omega), goods_end]
 ·intro k i hi ih
  simp only [spec_validWord.l0]
  rw [if_pos (by omega), if_pos (by omega), plain_at, goods_at hi]
  simp only [Option.bind_some, wnext hi hs, ih]
  by_cases hg : Good (bt s i) <;> simp [hg]
theorem spec_word_at (s : ByteArray) (hs : s.size ≤ 4611686018427387904) (k : Nat) (hk : s.size < k) : spec_validWord.f k s = some (wordOk s) := by
 have := spec_word_l s hs k 0 (by omega) (by omega)
 unfold spec_validWord.f wordOk
 by_cases h : (s.size : Int) > 12
 ·rw [if_pos h, show decide (s.size ≤ 12) = false from decide_eq_false (by omega), Bool.and_false]
 ·rw [if_neg h, show decide (s.size ≤ 12) = true from decide_eq_true (by omega), Bool.and_true]; exact this
def vOk (a b : Int) (s : ByteArray) : Bool :=
 if a = 0 then (if b = 0 then s.toList == ([] : List UInt8) else false)
 else if a = 1 then (if -1000 ≤ b ∧ b ≤ 1000 then s.toList == ([] : List UInt8) else false)
 else if a = 2 then (if b = 0 then wordOk s else false) else false
theorem impl_valOk_at (a b : Int) (s : ByteArray) (hs : s.size ≤ 4611686018427387904) (k : Nat) (hk : s.size < k) : impl_ValOk.f k a b s = some (vOk a b s) := by
 unfold impl_ValOk.f vOk
 simp only [within_at, impl_word_at s hs k hk, Option.bind_some, decide_eq_true_eq]
 repeat' split
 all_goals rfl
theorem spec_val_at (a b : Int) (s : ByteArray) (hs : s.size ≤ 4611686018427387904) (k : Nat) (hk : s.size < k) : spec_validValue.f k a b s = some (vOk a b s) := by
 unfold spec_validValue.f vOk
 simp only [inRange_at, spec_word_at s hs k hk, Option.bind_some, decide_eq_true_eq]
 repeat' split
 all_goals rfl
def vTrue (a b : Int) (s : ByteArray) : Bool := vOk a b s && (decide (b ≠ 0) || s.toList != ([] : List UInt8))
theorem impl_true_at (a b : Int) (s : ByteArray) (hs : s.size ≤ 4611686018427387904) (k : Nat) (hk : s.size < k) : impl_ValTrue.f k a b s = some (vTrue a b s) := by
 unfold impl_ValTrue.f vTrue
 simp only [impl_valOk_at a b s hs k hk, Option.bind_some]
 by_cases h : vOk a b s = true
 ·rw [if_pos h, h, Bool.true_and]
  unfold vOk at h
  by_cases ha : a = 0
  ·subst ha
   rw [if_pos rfl] at h
   by_cases hb : b = 0
   ·subst hb; simp at h; simp [h]
   ·rw [if_neg hb] at h; cases h
  ·rw [if_neg ha] at h
   by_cases ha1 : a = 1
   ·subst ha1
    by_cases hb : b = 0
    ·subst hb; simp at h; simp [h]
    ·simp [hb]
   ·rw [if_neg ha1] at h
    by_cases ha2 : a = 2
    ·subst ha2
     by_cases hb : b = 0
     ·subst hb; simp
     ·simp [hb] at h
    ·simp [ha2] at h
 ·rw [if_neg h]; simp at h; simp [h]
theorem spec_truth_at (a b : Int) (s : ByteArray) : spec_truth.f a b s = some (decide (b ≠ 0) || s.toList != ([] : List UInt8)) := by
 unfold spec_truth.f
 by_cases hb : b = 0 <;> simp [hb]
def itoaB (n : Int) : ByteArray := ⟨(Lib.itoa n).toArray⟩
theorem bytes_append (x y : List UInt8) : (⟨x.toArray⟩ ++ ⟨y.toArray⟩ : ByteArray) = ⟨(x ++ y).toArray⟩ := ByteArray.ext (by simp [ByteArray.data_append])
theorem bytes_size (x : List UInt8) : (⟨x.toArray⟩ : ByteArray).size = x.length := by show x.toArray.size = _; simp
theorem decDigits_le (u : Nat) : (Lib.decDigits u).length ≤ u + 1 := by
 induction u using Nat.strongRecOn with
 | ind u ih =>
  rw [Lib.decDigits]
  by_cases h : u < 10
  ·rw [dif_pos h]; simp
  ·rw [dif_neg h, List.length_append]
   have := ih (u / 10) (by omega)
   simp only [List.length_singleton]; omega
theorem digit_piece : ∀ u : Nat, u < 10 → (⟨#[48, 49, 50, 51, 52, 53, 54, 55, 56, 57]⟩ : ByteArray).extract u (u + 1) = ⟨(Lib.decDigits u).toArray⟩ := by
 intro u hu
 rw [Lib.decDigits_one hu]
 have : u = 0 ∨ u = 1 ∨ u = 2 ∨ u = 3 ∨ u = 4 ∨ u = 5 ∨ u = 6 ∨ u = 7 ∨ u = 8 ∨ u = 9 := by omega
 rcases this with rfl | rfl | rfl | rfl | rfl | rfl | rfl | rfl | rfl | rfl <;> first | rfl | decide
theorem decimal_nat : ∀ (k u : Nat), u ≤ 100000 → u < k → spec_decimal.f k (u : Int) = some ⟨(Lib.decDigits u).toArray⟩ := by
 intro k
 induction k with
 | zero => intro u _ h; omega
 | succ k ih =>
  intro u hu hk
  simp only [spec_decimal.f]
  rw [if_neg (show ¬ (u : Int) < 0 by omega)]
  by_cases h : u < 10
  ·have hw : wrap64 ((u : Int) + 1) = ((u + 1 : Nat) : Int) := by rw [w64 (by omega) (by omega)]; omega
   rw [hw, if_pos (show (u : Int) < 10 by omega), if_pos (show (0 : Int) ≤ (u : Int) by omega), if_pos (show (u : Int) ≤ ((u + 1 : Nat) : Int) by omega), if_pos (show ((u + 1 : Nat) : Int) ≤ 10 by omega)]
   rw [show ((u : Int)).toNat = u by omega, show (((u + 1 : Nat) : Int)).toNat = u + 1 by omega, digit_piece u h]
  ·have e1 : wrap64 (Int.tdiv (u : Int) 10) = ((u / 10 : Nat) : Int) := by
    have : Int.tdiv (u : Int) 10 = ((u / 10 : Nat) : Int) := rfl
    rw [this, w64 (by omega) (by omega)]
   have e2 : Int.tmod (u : Int) 10 = ((u % 10 : Nat) : Int) := rfl
   rw [if_neg (show ¬ (u : Int) < 10 by omega), e1, e2, ih (u / 10) (by omega) (by omega), bsome, ih (u % 10) (by omega) (by omega), bsome]
   have l1 := decDigits_le (u / 10)
   have l2 := decDigits_le (u % 10)
   rw [bytes_size, bytes_size, if_pos (by omega), bytes_append]
   have : Lib.decDigits u = Lib.decDigits (u / 10) ++ Lib.decDigits (u % 10) := by
    conv => lhs; rw [Lib.decDigits, dif_neg h]
    rw [Lib.decDigits_one (i := u % 10) (by omega)]
   rw [this]
theorem decimal_at (n : Int) (h : -1000 ≤ n ∧ n ≤ 1000) (k : Nat) (hk : 1002 < k) : spec_decimal.f k n = some (itoaB n) := by
 unfold itoaB Lib.itoa
 by_cases hn : n < 0
 ·obtain ⟨k, rfl⟩ : ∃ q, k = q + 1 := ⟨k - 1, by omega⟩
  simp only [spec_decimal.f]
  rw [if_pos hn, if_pos hn, w64 (by omega) (by omega), show -n = ((n.natAbs : Nat) : Int) by omega, decimal_nat k n.natAbs (by omega) (by omega), bsome]
  have l1 := decDigits_le n.natAbs
  rw [bytes_size, if_pos (by omega)]
  have e : (⟨#[45]⟩ : ByteArray) = ⟨([45] : List UInt8).toArray⟩ := rfl
  rw [e, bytes_append]; rfl
 ·rw [if_neg hn]
  have := decimal_nat k n.toNat (by omega) (by omega)
  rw [show ((n.toNat : Nat) : Int) = n by omega] at this
  exact this
def shw (a b : Int) (s : ByteArray) : ByteArray := if a = 1 then itoaB b else if a = 2 then s else ⟨#[]⟩
theorem itoaB_size (b : Int) (h : -1000 ≤ b ∧ b ≤ 1000) : (itoaB b).size ≤ 1002 := by
 unfold itoaB
 rw [bytes_size]
 unfold Lib.itoa
 split
 ·have := decDigits_le b.natAbs; simp only [List.length_cons]; omega
 ·have := decDigits_le b.toNat; omega
theorem vOk_num {a b : Int} {s : ByteArray} (h : vOk a b s = true) (ha : a = 1) : -1000 ≤ b ∧ b ≤ 1000 := by
 subst ha
 unfold vOk at h
 rw [if_neg (by decide), if_pos rfl] at h
 by_cases hb : -1000 ≤ b ∧ b ≤ 1000
 ·exact hb
 ·rw [if_neg hb] at h; cases h
theorem shw_size {a b : Int} {s : ByteArray} (h : vOk a b s = true) : (shw a b s).size ≤ 1002 + s.size := by
 unfold shw
 split
 ·rename_i e; have := itoaB_size b (vOk_num h e); omega
 ·split
  ·omega
  ·show 0 ≤ _; omega
def shown (a b : Int) (s : ByteArray) : ByteArray := if vOk a b s = true then shw a b s else ⟨#[]⟩
theorem itoa_f (b : Int) (h : -1000 ≤ b ∧ b ≤ 1000) : strconv_Itoa.f b = some (itoaB b) := by
 unfold strconv_Itoa.f itoaB
 rw [if_pos (by omega)]
theorem vOk_kinds {a b : Int} {s : ByteArray} (h : vOk a b s = true) : a = 0 ∨ a = 1 ∨ a = 2 := by
 unfold vOk at h
 by_cases e0 : a = 0
 ·exact .inl e0
 by_cases e1 : a = 1
 ·exact .inr (.inl e1)
 by_cases e2 : a = 2
 ·exact .inr (.inr e2)
 rw [if_neg e0, if_neg e1, if_neg e2] at h; cases h
theorem impl_show_at (a b : Int) (s : ByteArray) (hs : s.size ≤ 4611686018427387904) (k : Nat) (hk : s.size + 1 < k) : impl_ValShow.f k a b s = some (shown a b s) := by
 unfold impl_ValShow.f shown
 rw [impl_valOk_at a b s hs k (by omega), bsome]
 obtain ⟨k, rfl⟩ : ∃ q, k = q + 1 := ⟨k - 1, by omega⟩
 by_cases h : vOk a b s = true
 ·rw [if_pos h, if_pos h]
  simp only [impl_ValShow.j0]
  unfold shw
  rcases vOk_kinds h with e | e | e
  ·subst e; rfl
  ·rw [if_neg (by subst e; decide), if_pos e, itoa_f b (vOk_num h e), bsome, if_pos e]
  ·rw [if_neg (by subst e; decide), if_neg (by omega), if_neg (by omega), if_pos e]
 ·rw [if_neg h, if_neg h]
  simp only [impl_ValShow.j0]; rfl
theorem spec_show_at (a b : Int) (s : ByteArray) (h : vOk a b s = true) (k : Nat) (hk : 1002 < k) : spec_show.f k a b s = some (shw a b s) := by
 unfold spec_show.f shw
 by_cases e : a = 1
 ·rw [if_pos e, if_pos e, decimal_at b (vOk_num h e) k hk, bsome]
 ·rw [if_neg e, if_neg e]
  by_cases e2 : a = 2
  ·rw [if_pos e2, if_pos e2]
  ·rw [if_neg e2, if_neg e2]
abbrev Val := Int × Int × ByteArray
def zeroV : Val := (0, 0, ⟨#[]⟩)
def numV (n : Int) : Val := if -1000 ≤ n ∧ n ≤ 1000 then (1, n, ⟨#[]⟩) else zeroV
def truV (b : Bool) : Val := (1, if b = true then 1 else 0, ⟨#[]⟩)
def sameV (a0 a1 : Int) (a2 : ByteArray) (b0 b1 : Int) (b2 : ByteArray) : Bool := a0 == b0 && (a1 == b1 && (a2.toList == b2.toList))
def joinV (s : ByteArray) : Val := if wordOk s = true then (2, 0, s) else zeroV
def doV (op a0 a1 : Int) (a2 : ByteArray) (b0 b1 : Int) (b2 : ByteArray) : Val :=
 if vOk a0 a1 a2 = true ∧ vOk b0 b1 b2 = true then
  if op = 4 then truV (sameV a0 a1 a2 b0 b1 b2)
  else if op = 5 then joinV (shw a0 a1 a2 ++ shw b0 b1 b2)
  else if op = 6 then (if vTrue a0 a1 a2 = true then (b0, b1, b2) else (a0, a1, a2))
  else if 0 ≤ op ∧ op ≤ 3 ∧ a0 = 1 ∧ b0 = 1 then
   (if op = 0 then numV (a1 + b1) else if op = 1 then numV (a1 - b1) else if op = 2 then numV (a1 * b1) else truV (decide (a1 < b1)))
  else zeroV
 else zeroV
theorem bytes_size_append (a b : ByteArray) : (a ++ b).size = a.size + b.size := ByteArray.size_append
theorem mul_in {a b : Int} (ha : -1000 ≤ a ∧ a ≤ 1000) (hb : -1000 ≤ b ∧ b ≤ 1000) : -1000000 ≤ a * b ∧ a * b ≤ 1000000 := by
 have h1 : (a * b).natAbs ≤ 1000 * 1000 := by rw [Int.natAbs_mul]; exact Nat.mul_le_mul (by omega) (by omega)
 omega
theorem impl_truth_at (b : Bool) : impl_truth.f b = some (truV b) := by cases b <;> rfl
theorem impl_within_at' (n : Int) : impl_within.f n (-1000) 1000 = some (decide (-1000 ≤ n ∧ n ≤ 1000)) := by rw [within_at]
theorem impl_j3_at (n : Int) (k : Nat) (hk : 0 < k) : impl_ValDo.j3 k n = some (numV n) := by
 obtain ⟨k, rfl⟩ : ∃ q, k = q + 1 := ⟨k - 1, by omega⟩
 simp only [impl_ValDo.j3, impl_within_at', bsome, decide_eq_true_eq]
 unfold numV zeroV impl_number.f
 split <;> rfl
theorem word_vOk (s : ByteArray) : vOk 2 0 s = wordOk s := rfl
theorem impl_do_at (op a0 a1 : Int) (a2 : ByteArray) (b0 b1 : Int) (b2 : ByteArray) (ha : a2.size ≤ 1048576) (hb : b2.size ≤ 1048576) (k : Nat) (hk : 4194304 < k) : impl_ValDo.f k op a0 a1 a2 b0 b1 b2 = some (doV op a0 a1 a2 b0 b1 b2) := by
 unfold impl_ValDo.f
 rw [impl_valOk_at a0 a1 a2 (by omega) k (by omega), bsome]
 obtain ⟨k, rfl⟩ : ∃ q, k = q + 3 := ⟨k - 3, by omega⟩
 have zero : ∀ x16 : Bool, x16 = true → impl_ValDo.j0 (k + 3) op x16 a0 a1 a2 b0 b1 b2 = some zeroV := by intro x h; subst h; rfl
 cases h1 : vOk a0 a1 a2
 ·rw [if_neg (by decide), zero true rfl]; unfold doV; rw [if_neg (by rw [h1]; simp)]
 rw [if_pos rfl, impl_valOk_at b0 b1 b2 (by omega) (k + 3) (by omega), bsome]
 cases h2 : vOk b0 b1 b2
 ·show impl_ValDo.j0 (k + 3) op true a0 a1 a2 b0 b1 b2 = _
  rw [zero true rfl]; unfold doV; rw [if_neg (by rw [h2]; simp)]
 have key : ∀ x19 : Bool, (x19 = true ↔ (0 ≤ op ∧ op ≤ 3)) → impl_ValDo.j1 (k + 2) op op x19 a0 a1 a2 b0 b1 b2 = some (doV op a0 a1 a2 b0 b1 b2) := by
  intro x19 hx
  simp only [impl_ValDo.j1]
  unfold doV
  rw [if_pos (show vOk a0 a1 a2 = true ∧ vOk b0 b1 b2 = true from ⟨h1, h2⟩)]
  cases x19
  ·have hn : ¬ (0 ≤ op ∧ op ≤ 3) := fun h => by have := hx.2 h; cases this
   rw [if_neg (by decide)]
   by_cases e4 : op = 4
   ·rw [if_pos e4, if_pos e4, impl_truth_at, bsome]; rfl
   rw [if_neg e4, if_neg e4]
   by_cases e5 : op = 5
   ·rw [if_pos e5, if_pos e5, impl_show_at a0 a1 a2 (by omega) (k + 1) (by omega), bsome, impl_show_at b0 b1 b2 (by omega) (k + 1) (by omega), bsome]
    unfold shown
    rw [if_pos h1, if_pos h2]
    have l1 := shw_size h1
    have l2 := shw_size h2
    rw [if_pos (by omega), impl_valOk_at 2 0 _ (by rw [bytes_size_append]; omega) (k + 1) (by rw [bytes_size_append]; omega), bsome, word_vOk]
    unfold joinV zeroV
    split <;> rfl
   rw [if_neg e5, if_neg e5]
   by_cases e6 : op = 6
   ·rw [if_pos e6, if_pos e6, impl_true_at a0 a1 a2 (by omega) (k + 1) (by omega), bsome]
    split <;> rfl
   rw [if_neg e6, if_neg e6, if_neg (show ¬ (0 ≤ op ∧ op ≤ 3 ∧ a0 = 1 ∧ b0 = 1) from fun h => hn ⟨h.1, h.2.1⟩)]; rfl
  ·have hn := hx.1 rfl
   rw [if_pos rfl, if_neg (show ¬ op = 4 by omega), if_neg (show ¬ op = 5 by omega), if_neg (show ¬ op = 6 by omega)]
   have j2t : impl_ValDo.j2 (k + 1) op true a0 a1 a2 b0 b1 b2 = some zeroV := rfl
   by_cases f1 : a0 = 1
   ·rw [if_pos f1]
    by_cases f2 : b0 = 1
    ·rw [if_pos (show 0 ≤ op ∧ op ≤ 3 ∧ a0 = 1 ∧ b0 = 1 from ⟨hn.1, hn.2, f1, f2⟩), show (b0 != 1) = false from bne_eq_false_iff_eq.mpr f2]
     have n1 := vOk_num h1 f1
     have n2 := vOk_num h2 f2
     have n3 := mul_in n1 n2
     simp only [impl_ValDo.j2]
     rw [if_neg (by decide)]
     by_cases o0 : op = 0
     ·rw [if_pos o0, if_pos o0, w64 (by omega) (by omega), impl_j3_at _ k (by omega)]
     rw [if_neg o0, if_neg o0]
     by_cases o1 : op = 1
     ·rw [if_pos o1, if_pos o1, w64 (by omega) (by omega), impl_j3_at _ k (by omega)]
     rw [if_neg o1, if_neg o1]
     by_cases o2 : op = 2
     ·rw [if_pos o2, if_pos o2, w64 (by omega) (by omega), impl_j3_at _ k (by omega)]
     rw [if_neg o2, if_neg o2, impl_truth_at, bsome]
    ·rw [if_neg (show ¬ (0 ≤ op ∧ op ≤ 3 ∧ a0 = 1 ∧ b0 = 1) from fun h => f2 h.2.2.2), show (b0 != 1) = true from bne_iff_ne.mpr f2, j2t]
   ·rw [if_neg f1, if_neg (show ¬ (0 ≤ op ∧ op ≤ 3 ∧ a0 = 1 ∧ b0 = 1) from fun h => f1 h.2.2.1), j2t]
 rw [show (!true) = false from rfl]
 show impl_ValDo.j0 (k + 2 + 1) op false a0 a1 a2 b0 b1 b2 = _
 simp only [impl_ValDo.j0]
 rw [if_neg (by decide)]
 by_cases o0 : op = 0
 ·rw [if_pos o0]; exact key _ (by simp [o0])
 rw [if_neg o0]
 by_cases o1 : op = 1
 ·rw [if_pos o1]; exact key _ (by simp [o1])
 rw [if_neg o1]
 by_cases o2 : op = 2
 ·rw [if_pos o2]; exact key _ (by simp [o2])
 rw [if_neg o2]
 exact key _ (by rw [beq_iff_eq]; omega)
theorem spec_number_at (n : Int) : spec_number.f n = some (numV n) := by
 unfold spec_number.f numV zeroV
 rw [inRange_at, bsome]
 simp only [decide_eq_true_eq]
 split <;> rfl
theorem spec_boolean_at (b : Bool) : spec_boolean.f b = some (truV b) := by
 unfold spec_boolean.f truV
 cases b
 ·rw [if_neg (by decide), spec_number_at, bsome]; rfl
 ·rw [if_pos rfl, spec_number_at, bsome]; rfl
theorem spec_do_at (op a0 a1 : Int) (a2 : ByteArray) (b0 b1 : Int) (b2 : ByteArray) (hop : 0 ≤ op ∧ op ≤ 6) (h1 : vOk a0 a1 a2 = true) (h2 : vOk b0 b1 b2 = true) (ha : a2.size ≤ 1048576) (hb : b2.size ≤ 1048576) (k : Nat) (hk : 4194304 < k) : spec_do.f k op a0 a1 a2 b0 b1 b2 = some (doV op a0 a1 a2 b0 b1 b2) := by
 obtain ⟨k, rfl⟩ : ∃ q, k = q + 1 := ⟨k - 1, by omega⟩
 have key : ∀ x7 : Bool, (x7 = true ↔ (a0 = 1 ∧ b0 = 1)) → spec_do.j0 (k + 1) op x7 a0 a1 a2 b0 b1 b2 = some (doV op a0 a1 a2 b0 b1 b2) := by
  intro x7 hx
  simp only [spec_do.j0]
  unfold doV
  rw [if_pos (show vOk a0 a1 a2 = true ∧ vOk b0 b1 b2 = true from ⟨h1, h2⟩)]
  by_cases e4 : op = 4
  ·rw [if_pos e4, if_pos e4, spec_boolean_at, bsome]; rfl
  rw [if_neg e4, if_neg e4]
  by_cases e6 : op = 6
  ·rw [if_pos e6, if_neg (show ¬ op = 5 by omega), if_pos e6, spec_truth_at, bsome]
   unfold vTrue
   rw [h1, Bool.true_and]
   split <;> rfl
  rw [if_neg e6]
  by_cases e5 : op = 5
  ·rw [if_pos e5, if_pos e5, spec_show_at a0 a1 a2 h1 k (by omega), bsome, spec_show_at b0 b1 b2 h2 k (by omega), bsome]
   have l1 := shw_size h1
   have l2 := shw_size h2
   rw [if_pos (by omega), spec_word_at _ (by rw [bytes_size_append]; omega) k (by rw [bytes_size_append]; omega), bsome]
   unfold joinV zeroV
   split <;> rfl
  rw [if_neg e5, if_neg e5, if_neg e6]
  cases x7
  ·rw [if_neg (by decide), if_neg (show ¬ (0 ≤ op ∧ op ≤ 3 ∧ a0 = 1 ∧ b0 = 1) from fun h => by have := hx.2 h.2.2; cases this)]; rfl
  ·have hn := hx.1 rfl
   have n1 := vOk_num h1 hn.1
   have n2 := vOk_num h2 hn.2
   have n3 := mul_in n1 n2
   rw [if_pos rfl, if_pos (show 0 ≤ op ∧ op ≤ 3 ∧ a0 = 1 ∧ b0 = 1 from ⟨by omega, by omega, hn.1, hn.2⟩)]
   by_cases o0 : op = 0
   ·rw [if_pos o0, if_pos o0, w64 (by omega) (by omega), spec_number_at, bsome]
   rw [if_neg o0, if_neg o0]
   by_cases o1 : op = 1
   ·rw [if_pos o1, if_pos o1, w64 (by omega) (by omega), spec_number_at, bsome]
   rw [if_neg o1, if_neg o1]
   by_cases o2 : op = 2
   ·rw [if_pos o2, if_pos o2, w64 (by omega) (by omega), spec_number_at, bsome]
   rw [if_neg o2, if_neg o2, spec_boolean_at, bsome]
 unfold spec_do.f
 by_cases f1 : a0 = 1
 ·rw [if_pos f1]; exact key _ (by rw [beq_iff_eq]; exact ⟨fun h => ⟨f1, h⟩, fun h => h.2⟩)
 ·rw [if_neg f1]; exact key _ (by simp [f1])
theorem spec_ValDo_at (op a0 a1 : Int) (a2 : ByteArray) (b0 b1 : Int) (b2 : ByteArray) (ha : a2.size ≤ 1048576) (hb : b2.size ≤ 1048576) (k : Nat) (hk : 4194304 < k) : spec_ValDo.f k op a0 a1 a2 b0 b1 b2 = some (doV op a0 a1 a2 b0 b1 b2) := by
 unfold spec_ValDo.f
 rw [inRange_at, bsome, spec_val_at a0 a1 a2 (by omega) k (by omega), bsome, spec_val_at b0 b1 b2 (by omega) k (by omega), bsome]
 simp only [decide_eq_true_eq]
 by_cases h1 : vOk a0 a1 a2 = true
 ·by_cases h2 : vOk b0 b1 b2 = true
  ·by_cases hop : 0 ≤ op ∧ op ≤ 6
   ·rw [if_pos hop, if_pos h1, if_pos h2, spec_do_at op a0 a1 a2 b0 b1 b2 hop h1 h2 ha hb k hk, bsome]
   ·rw [if_neg hop]
    unfold doV
    rw [if_pos (show vOk a0 a1 a2 = true ∧ vOk b0 b1 b2 = true from ⟨h1, h2⟩), if_neg (show ¬ op = 4 by omega), if_neg (show ¬ op = 5 by omega), if_neg (show ¬ op = 6 by omega), if_neg (show ¬ (0 ≤ op ∧ op ≤ 3 ∧ a0 = 1 ∧ b0 = 1) from fun h => by omega)]; rfl
  ·have : doV op a0 a1 a2 b0 b1 b2 = zeroV := by unfold doV; rw [if_neg (fun h => h2 h.2)]
   rw [this, if_pos h1, if_neg h2]; split <;> rfl
 ·have : doV op a0 a1 a2 b0 b1 b2 = zeroV := by unfold doV; rw [if_neg (fun h => h1 h.1)]
  rw [this, if_neg h1]; split <;> rfl
def G23 (x : (Int) × (Int) × ByteArray) : Prop := (Lit.int .i64 x.1).wf = true ∧ ((Lit.int .i64 x.2.1).wf = true ∧ (x.2.2.size ≤ maxLen))
def PureFnExactValDo : Prop := ∀ (a0 : Int) (a1 : (Int) × (Int) × ByteArray) (a2 : (Int) × (Int) × ByteArray), (Lit.int .i64 a0).wf = true → G23 a1 → G23 a2 → ∃ k, laws_FnExactValDo.f k a0 a1.1 a1.2.1 a1.2.2 a2.1 a2.2.1 a2.2.2 = some true
theorem FnExactValDo : PureFnExactValDo := by
 rintro op ⟨a0, a1, a2⟩ ⟨b0, b1, b2⟩ - ⟨-, -, hs⟩ ⟨-, -, ht⟩
 have hm : a2.size ≤ 9223372036854775807 := hs
 have hm' : b2.size ≤ 9223372036854775807 := ht
 simp only
 obtain ⟨k, hk⟩ : ∃ k : Nat, k = 8388608 := ⟨_, rfl⟩
 refine ⟨k, ?_⟩
 unfold laws_FnExactValDo.f laws_szValue.f laws_toValue.f
 rw [w64 (by omega) (by omega)]
 by_cases h : 1048576 - (a2.size : Int) < 0
 ·rw [if_pos h, bsome]; rfl
 rw [if_neg h, bsome, if_neg h, w64 (by omega) (by omega)]
 by_cases h' : 1048576 - (a2.size : Int) - (b2.size : Int) < 0
 ·rw [if_pos h', bsome]; rfl
 rw [if_neg h', bsome, if_neg h', bsome, bsome]
 show Option.bind (spec_ValDo.f k op a0 a1 a2 b0 b1 b2) _ = _
 rw [spec_ValDo_at op a0 a1 a2 b0 b1 b2 (by omega) (by omega) k (by omega), bsome, bsome, bsome]
 show Option.bind (impl_ValDo.f k op a0 a1 a2 b0 b1 b2) _ = _
 rw [impl_do_at op a0 a1 a2 b0 b1 b2 (by omega) (by omega) k (by omega), bsome]
 unfold laws_eqValue.f
 rw [if_pos rfl, if_pos rfl, if_pos rfl, bsome, if_pos rfl]
end Go.Proofs.YthbodcpgdllegaaDoor.Pure
