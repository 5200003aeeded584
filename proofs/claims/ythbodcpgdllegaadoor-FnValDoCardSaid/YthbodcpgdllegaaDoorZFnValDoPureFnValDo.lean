/- The pure statement of the law 'FnValDo': for every list of bytes the law's function returns true (no condition but that of the form: the list's length). -/
import Derived.Test.YthbodcpgdllegaaDoorZFnValDoQFnValDox8
namespace Go.Proofs.YthbodcpgdllegaaDoor.Pure
open Go Go.RowKit Go.Proofs.YthbodcpgdllegaaDoor.PFnValDo Go.Proofs.YthbodcpgdllegaaDoorW.PrintWords Go.Proofs.YthbodcpgdllegaaDoorW.PrintLast
set_option linter.unusedVariables false
set_option linter.unusedSimpArgs false
theorem w64 {n : Int} (h1 : -9223372036854775808 ≤ n) (h2 : n ≤ 9223372036854775807) : wrap64 n = n := by
 unfold wrap64; omega
theorem wnext {i n : Nat} (h : i < n) (hn : n ≤ 4611686018427387904) : wrap64 ((i : Int) + 1) = ((i + 1 : Nat) : Int) := by
 rw [w64 (by omega) (by omega)]; omega
theorem loop_up {n : Nat} (Q : Nat → Nat → Prop) (last : ∀ k, Q (k + 1) n) (step : ∀ k i, i < n → Q k (i + 1) → Q (k + 1) i) : ∀ k i, i ≤ n → n - i < k → Q k i := by
 intro k
 induction k with
 | zero => intro i _ h; omega
 | succ k ih =>
  intro i hi hk
  by_cases h : i = n
  ·subst h; exact last k
  ·exact step k i (by omega) (ih (i + 1) (by omega) (by omega))
theorem drop_at {α : Type} {l : List α} {i : Nat} (d : α) (h : i < l.length) : l.drop i = l.getD ((i : Int)).toNat d :: l.drop (i + 1) := by
 rw [List.drop_eq_getElem_cons h, List.getD_eq_getElem?_getD]
 simp [h]
theorem range_at {i n : Nat} (h : i < n) : List.range' i (n - i) = i :: List.range' (i + 1) (n - (i + 1)) := by
 rw [show n - i = (n - (i + 1)) + 1 by omega, List.range'_succ]
theorem range_end (n : Nat) : List.range' n (n - n) = [] := by simp
theorem bsome {α β : Type} (a : α) (f : α → Option β) : (some a).bind f = f a := by
 cases h : f a <;> simp [h]
theorem within_at (a b c : Int) : impl_within.f a b c = some (decide (b ≤ a ∧ a ≤ c)) := by
 unfold impl_within.f
 by_cases h : a ≥ b
 ·rw [if_pos h]; congr 1; exact decide_eq_decide.mpr ⟨fun x => ⟨h, x⟩, fun x => x.2⟩
 ·rw [if_neg h]; congr 1; exact (decide_eq_false fun x => h x.1).symm
theorem inRange_at (a b c : Int) : spec_inRange.f a b c = some (decide (b ≤ a ∧ a ≤ c)) := by
 unfold spec_inRange.f
 by_cases h : a ≥ b
 ·rw [if_pos h]; congr 1; exact decide_eq_decide.mpr ⟨fun x => ⟨h, x⟩, fun x => x.2⟩
 ·rw [if_neg h]; congr 1; exact (decide_eq_false fun x => h x.1).symm
def Good (c : Int) : Prop := (97 ≤ c ∧ c ≤ 122) ∨ (48 ≤ c ∧ c ≤ 57) ∨ c = 32
instance (c : Int) : Decidable (Good c) := by unfold Good; exact inferInstance
def goodsFrom (s : ByteArray) (i : Nat) : Bool := (List.range' i (s.size - i)).all fun j => decide (Good (bt s j))
theorem goods_at {s : ByteArray} {i : Nat} (h : i < s.size) : goodsFrom s i = (decide (Good (bt s i)) && goodsFrom s (i + 1)) := by
 unfold goodsFrom; rw [range_at h]; rfl
theorem goods_end (s : ByteArray) : goodsFrom s s.size = true := by
 unfold goodsFrom; rw [range_end]; rfl
def wordOk (s : ByteArray) : Bool := goodsFrom s 0 && decide (s.size ≤ 12)
theorem impl_word_l (s : ByteArray) (hs : s.size ≤ 4611686018427387904) : ∀ k i, i ≤ s.size → s.size - i < k → impl_word.l0 k s (i : Int) = some (goodsFrom s i && decide (s.size ≤ 12)) := by
 refine loop_up (fun k i => impl_word.l0 k s (i : Int) = some (goodsFrom s i && decide (s.size ≤ 12))) ?_ ?_
 ·intro k
  simp only [impl_word.l0]
  rw [if_neg (by omega), goods_end, Bool.true_and]
  congr 1; exact decide_eq_decide.mpr (by omega)
 ·intro k i hi ih
  have e : impl_word.l0 (k + 1) s (i : Int) = if Good (bt s i) then impl_word.l0 k s (wrap64 ((i : Int) + 1)) else some false := by
   simp only [impl_word.l0]
   rw [if_pos (by omega), if_pos (by omega)]
   by_cases hg : Good (bt s i)
   ·rw [if_pos hg]; unfold Good at hg
    repeat' split
    all_goals first
     | rfl
     | (exfalso; omega)
   ·rw [if_neg hg]; unfold Good at hg
    repeat' split
    all_goals first
     | rfl
     | (exfalso; omega)
  rw [e, wnext hi hs, ih, goods_at hi]
  by_cases hg : Good (bt s i) <;> simp [hg]
theorem impl_word_at (s : ByteArray) (hs : s.size ≤ 4611686018427387904) (k : Nat) (hk : s.size < k) : impl_word.f k s = some (wordOk s) := by
 have := impl_word_l s hs k 0 (by omega) (by omega)
 unfold impl_word.f wordOk
 exact this
theorem plain_at (c : Int) : spec_plainByte.f c = some (decide (Good c)) := by
 unfold spec_plainByte.f
 by_cases hg : Good c
 ·rw [decide_eq_true hg]; unfold Good at hg
  repeat' split
  all_goals first
   | rfl
   | (congr 1; exact beq_iff_eq.mpr (by omega))
   | (exfalso; omega)
 ·rw [decide_eq_false hg]; unfold Good at hg
  repeat' split
  all_goals first
   | rfl
   | (congr 1; exact beq_eq_false_iff_ne.mpr (by omega))
   | (exfalso; omega)
theorem spec_word_l (s : ByteArray) (hs : s.size ≤ 4611686018427387904) : ∀ k i, i ≤ s.size → s.size - i < k → spec_validWord.l0 k s (i : Int) = some (goodsFrom s i) := by
 refine loop_up (fun k i => spec_validWord.l0 k s (i : Int) = some (goodsFrom s i)) ?_ ?_
 ·intro k
  simp only [spec_validWord.l0]
  rw [if_neg (by omega), goods_end]
 ·intro k i hi ih
  simp only [spec_validWord.l0]
  rw [if_pos (by omega), if_pos (by omega), plain_at, goods_at hi]
  simp only [Option.bind_some, wnext hi hs, ih]
  by_cases hg : Good (bt s i) <;> simp [hg]
theorem spec_word_at (s : ByteArray) (hs : s.size ≤ 4611686018427387904) (k : Nat) (hk : s.size < k) : spec_validWord.f k s = some (wordOk s) := by
 have := spec_word_l s hs k 0 (by omega) (by omega)
 unfold spec_validWord.f wordOk
 by_cases h : (s.size : Int) > 12
 ·rw [if_pos h, show decide (s.size ≤ 12) = false from decide_eq_false (by omega), Bool.and_false]
 ·rw [if_neg h, show decide (s.size ≤ 12) = true from decide_eq_true (by omega), Bool.and_true]; exact this
def vOk (a b : Int) (s : ByteArray) : Bool :=
 if a = 0 then (if b = 0 then s.toList == ([] : List UInt8) else false)
 else if a = 1 then (if -1000 ≤ b ∧ b ≤ 1000 then s.toList == ([] : List UInt8) else false)
 else if a = 2 then (if b = 0 then wordOk s else false) else false
theorem impl_valOk_at (a b : Int) (s : ByteArray) (hs : s.size ≤ 4611686018427387904) (k : Nat) (hk : s.size < k) : impl_ValOk.f k a b s = some (vOk a b s) := by
 unfold impl_ValOk.f vOk
 simp only [within_at, impl_word_at s hs k hk, Option.bind_some, decide_eq_true_eq]
 repeat' split
 all_goals rfl
theorem spec_val_at (a b : Int) (s : ByteArray) (hs : s.size ≤ 4611686018427387904) (k : Nat) (hk : s.size < k) : spec_validValue.f k a b s = some (vOk a b s) := by
 unfold spec_validValue.f vOk
 simp only [inRange_at, spec_word_at s hs k hk, Option.bind_some, decide_eq_true_eq]
 repeat' split
 all_goals rfl
def vTrue (a b : Int) (s : ByteArray) : Bool := vOk a b s && (decide (b ≠ 0) || s.toList != ([] : List UInt8))
theorem impl_true_at (a b : Int) (s : ByteArray) (hs : s.size ≤ 4611686018427387904) (k : Nat) (hk : s.size < k) : impl_ValTrue.f k a b s = some (vTrue a b s) := by
 unfold impl_ValTrue.f vTrue
 simp only [impl_valOk_at a b s hs k hk, Option.bind_some]
 by_cases h : vOk a b s = true
 ·rw [if_pos h, h, Bool.true_and]
  unfold vOk at h
  by_cases ha : a = 0
  ·subst ha
   rw [if_pos rfl] at h
   by_cases hb : b = 0
   ·subst hb; simp at h; simp [h]
   ·rw [if_neg hb] at h; cases h
  ·rw [if_neg ha] at h
   by_cases ha1 : a = 1
   ·subst ha1
    by_cases hb : b = 0
    ·subst hb; simp at h; simp [h]
    ·simp [hb]
   ·rw [if_neg ha1] at h
    by_cases ha2 : a = 2
    ·subst ha2
     by_cases hb : b = 0
     ·subst hb; simp
     ·simp [hb] at h
    ·simp [ha2] at h
 ·rw [if_neg h]; simp at h; simp [h]
theorem spec_truth_at (a b : Int) (s : ByteArray) : spec_truth.f a b s = some (decide (b ≠ 0) || s.toList != ([] : List UInt8)) := by
 unfold spec_truth.f
 by_cases hb : b = 0 <;> simp [hb]
def itoaB (n : Int) : ByteArray := ⟨(Lib.itoa n).toArray⟩
theorem bytes_append (x y : List UInt8) : (⟨x.toArray⟩ ++ ⟨y.toArray⟩ : ByteArray) = ⟨(x ++ y).toArray⟩ := ByteArray.ext (by simp [ByteArray.data_append])
theorem bytes_size (x : List UInt8) : (⟨x.toArray⟩ : ByteArray).size = x.length := by show x.toArray.size = _; simp
theorem decDigits_le (u : Nat) : (Lib.decDigits u).length ≤ u + 1 := by
 induction u using Nat.strongRecOn with
 | ind u ih =>
  rw [Lib.decDigits]
  by_cases h : u < 10
  ·rw [dif_pos h]; simp
  ·rw [dif_neg h, List.length_append]
   have := ih (u / 10) (by omega)
   simp only [List.length_singleton]; omega
theorem digit_piece : ∀ u : Nat, u < 10 → (⟨#[48, 49, 50, 51, 52, 53, 54, 55, 56, 57]⟩ : ByteArray).extract u (u + 1) = ⟨(Lib.decDigits u).toArray⟩ := by
 intro u hu
 rw [Lib.decDigits_one hu]
 have : u = 0 ∨ u = 1 ∨ u = 2 ∨ u = 3 ∨ u = 4 ∨ u = 5 ∨ u = 6 ∨ u = 7 ∨ u = 8 ∨ u = 9 := by omega
 rcases this with rfl | rfl | rfl | rfl | rfl | rfl | rfl | rfl | rfl | rfl <;> first | rfl | decide
theorem decimal_nat : ∀ (k u : Nat), u ≤ 100000 → u < k → spec_decimal.f k (u : Int) = some ⟨(Lib.decDigits u).toArray⟩ := by
 intro k
 induction k with
 | zero => intro u _ h; omega
 | succ k ih =>
  intro u hu hk
  simp only [spec_decimal.f]
  rw [if_neg (show ¬ (u : Int) < 0 by omega)]
  by_cases h : u < 10
  ·have hw : wrap64 ((u : Int) + 1) = ((u + 1 : Nat) : Int) := by rw [w64 (by omega) (by omega)]; omega
   rw [hw, if_pos (show (u : Int) < 10 by omega), if_pos (show (0 : Int) ≤ (u : Int) by omega), if_pos (show (u : Int) ≤ ((u + 1 : Nat) : Int) by omega), if_pos (show ((u + 1 : Nat) : Int) ≤ 10 by omega)]
   rw [show ((u : Int)).toNat = u by omega, show (((u + 1 : Nat) : Int)).toNat = u + 1 by omega, digit_piece u h]
  ·have e1 : wrap64 (Int.tdiv (u : Int) 10) = ((u / 10 : Nat) : Int) := by
    have : Int.tdiv (u : Int) 10 = ((u / 10 : Nat) : Int) := rfl
    rw [this, w64 (by omega) (by omega)]
   have e2 : Int.tmod (u : Int) 10 = ((u % 10 : Nat) : Int) := rfl
   rw [if_neg (show ¬ (u : Int) < 10 by omega), e1, e2, ih (u / 10) (by omega) (by omega), bsome, ih (u % 10) (by omega) (by omega), bsome]
   have l1 := decDigits_le (u / 10)
   have l2 := decDigits_le (u % 10)
   rw [bytes_size, bytes_size, if_pos (by omega), bytes_append]
   have : Lib.decDigits u = Lib.decDigits (u / 10) ++ Lib.decDigits (u % 10) := by
    conv => lhs; rw [Lib.decDigits, dif_neg h]
    rw [Lib.decDigits_one (i := u % 10) (by omega)]
   rw [this]
theorem decimal_at (n : Int) (h : -1000 ≤ n ∧ n ≤ 1000) (k : Nat) (hk : 1002 < k) : spec_decimal.f k n = some (itoaB n) := by
 unfold itoaB Lib.itoa
 by_cases hn : n < 0
 ·obtain ⟨k, rfl⟩ : ∃ q, k = q + 1 := ⟨k - 1, by omega⟩
  simp only [spec_decimal.f]
  rw [if_pos hn, if_pos hn, w64 (by omega) (by omega), show -n = ((n.natAbs : Nat) : Int) by omega, decimal_nat k n.natAbs (by omega) (by omega), bsome]
  have l1 := decDigits_le n.natAbs
  rw [bytes_size, if_pos (by omega)]
  have e : (⟨#[45]⟩ : ByteArray) = ⟨([45] : List UInt8).toArray⟩ := rfl
  rw [e, bytes_append]; rfl
 ·rw [if_neg hn]
  have := decimal_nat k n.toNat (by omega) (by omega)
  rw [show ((n.toNat : Nat) : Int) = n by omega] at this
  exact this
def shw (a b : Int) (s : ByteArray) : ByteArray := if a = 1 then itoaB b else if a = 2 then s else ⟨#[]⟩
theorem itoaB_size (b : Int) (h : -1000 ≤ b ∧ b ≤ 1000) : (itoaB b).size ≤ 1002 := by
 unfold itoaB
 rw [bytes_size]
 unfold Lib.itoa
 split
 ·have := decDigits_le b.natAbs; simp only [List.length_cons]; omega
 ·have := decDigits_le b.toNat; omega
theorem vOk_num {a b : Int} {s : ByteArray} (h : vOk a b s = true) (ha : a = 1) : -1000 ≤ b ∧ b ≤ 1000 := by
 subst ha
 unfold vOk at h
 rw [if_neg (by decide), if_pos rfl] at h
 by_cases hb : -1000 ≤ b ∧ b ≤ 1000
 ·exact hb
 ·rw [if_neg hb] at h; cases h
theorem shw_size {a b : Int} {s : ByteArray} (h : vOk a b s = true) : (shw a b s).size ≤ 1002 + s.size := by
 unfold shw
 split
 ·rename_i e; have := itoaB_size b (vOk_num h e); omega
 ·split
  ·omega
  ·show 0 ≤ _; omega
def shown (a b : Int) (s : ByteArray) : ByteArray := if vOk a b s = true then shw a b s else ⟨#[]⟩
theorem itoa_f (b : Int) (h : -1000 ≤ b ∧ b ≤ 1000) : strconv_Itoa.f b = some (itoaB b) := by
 unfold strconv_Itoa.f itoaB
 rw [if_pos (by omega)]
theorem vOk_kinds {a b : Int} {s : ByteArray} (h : vOk a b s = true) : a = 0 ∨ a = 1 ∨ a = 2 := by
 unfold vOk at h
 by_cases e0 : a = 0
 ·exact .inl e0
 by_cases e1 : a = 1
 ·exact .inr (.inl e1)
 by_cases e2 : a = 2
 ·exact .inr (.inr e2)
 rw [if_neg e0, if_neg e1, if_neg e2] at h; cases h
theorem impl_show_at (a b : Int) (s : ByteArray) (hs : s.size ≤ 4611686018427387904) (k : Nat) (hk : s.size + 1 < k) : impl_ValShow.f k a b s = some (shown a b s) := by
 unfold impl_ValShow.f shown
 rw [impl_valOk_at a b s hs k (by omega), bsome]
 obtain ⟨k, rfl⟩ : ∃ q, k = q + 1 := ⟨k - 1, by omega⟩
 by_cases h : vOk a b s = true
 ·rw [if_pos h, if_pos h]
  simp only [impl_ValShow.j0]
  unfold shw
  rcases vOk_kinds h with e | e | e
  ·subst e; rfl
  ·rw [if_neg (by subst e; decide), if_pos e, itoa_f b (vOk_num h e), bsome, if_pos e]
  ·rw [if_neg (by subst e; decide), if_neg (by omega), if_neg (by omega), if_pos e]
 ·rw [if_neg h, if_neg h]
  simp only [impl_ValShow.j0]; rfl
theorem spec_show_at (a b : Int) (s : ByteArray) (h : vOk a b s = true) (k : Nat) (hk : 1002 < k) : spec_show.f k a b s = some (shw a b s) := by
 unfold spec_show.f shw
 by_cases e : a = 1
 ·rw [if_pos e, if_pos e, decimal_at b (vOk_num h e) k hk, bsome]
 ·rw [if_neg e, if_neg e]
  by_cases e2 : a = 2
  ·rw [if_pos e2, if_pos e2]
  ·rw [if_neg e2, if_neg e2]
theorem empty_list : (⟨#[]⟩ : ByteArray).toList = ([] : List UInt8) := by kernel_rfl
abbrev Val := Int × Int × ByteArray
def zeroV : Val := (0, 0, ⟨#[]⟩)
def numV (n : Int) : Val := if -1000 ≤ n ∧ n ≤ 1000 then (1, n, ⟨#[]⟩) else zeroV
def truV (b : Bool) : Val := (1, if b = true then 1 else 0, ⟨#[]⟩)
def sameV (a0 a1 : Int) (a2 : ByteArray) (b0 b1 : Int) (b2 : ByteArray) : Bool := a0 == b0 && (a1 == b1 && (a2.toList == b2.toList))
def joinV (s : ByteArray) : Val := if wordOk s = true then (2, 0, s) else zeroV
def doV (op a0 a1 : Int) (a2 : ByteArray) (b0 b1 : Int) (b2 : ByteArray) : Val :=
 if vOk a0 a1 a2 = true ∧ vOk b0 b1 b2 = true then
  if op = 4 then truV (sameV a0 a1 a2 b0 b1 b2)
  else if op = 5 then joinV (shw a0 a1 a2 ++ shw b0 b1 b2)
  else if op = 6 then (if vTrue a0 a1 a2 = true then (b0, b1, b2) else (a0, a1, a2))
  else if 0 ≤ op ∧ op ≤ 3 ∧ a0 = 1 ∧ b0 = 1 then
   (if op = 0 then numV (a1 + b1) else if op = 1 then numV (a1 - b1) else if op = 2 then numV (a1 * b1) else truV (decide (a1 < b1)))
  else zeroV
 else zeroV
theorem bytes_size_append (a b : ByteArray) : (a ++ b).size = a.size + b.size := ByteArray.size_append
theorem mul_in {a b : Int} (ha : -1000 ≤ a ∧ a ≤ 1000) (hb : -1000 ≤ b ∧ b ≤ 1000) : -1000000 ≤ a * b ∧ a * b ≤ 1000000 := by
 have h1 : (a * b).natAbs ≤ 1000 * 1000 := by rw [Int.natAbs_mul]; exact Nat.mul_le_mul (by omega) (by omega)
 omega
theorem impl_truth_at (b : Bool) : impl_truth.f b = some (truV b) := by cases b <;> rfl
theorem impl_within_at' (n : Int) : impl_within.f n (-1000) 1000 = some (decide (-1000 ≤ n ∧ n ≤ 1000)) := by rw [within_at]
theorem impl_j3_at (n : Int) (k : Nat) (hk : 0 < k) : impl_ValDo.j3 k n = some (numV n) := by
 obtain ⟨k, rfl⟩ : ∃ q, k = q + 1 := ⟨k - 1, by omega⟩
 simp only [impl_ValDo.j3, impl_within_at', bsome, decide_eq_true_eq]
 unfold numV zeroV impl_number.f
 split <;> rfl
theorem word_vOk (s : ByteArray) : vOk 2 0 s = wordOk s := rfl
theorem impl_do_at (op a0 a1 : Int) (a2 : ByteArray) (b0 b1 : Int) (b2 : ByteArray) (ha : a2.size ≤ 1048576) (hb : b2.size ≤ 1048576) (k : Nat) (hk : 4194304 < k) : impl_ValDo.f k op a0 a1 a2 b0 b1 b2 = some (doV op a0 a1 a2 b0 b1 b2) := by
 unfold impl_ValDo.f
 rw [impl_valOk_at a0 a1 a2 (by omega) k (by omega), bsome]
 obtain ⟨k, rfl⟩ : ∃ q, k = q + 3 := ⟨k - 3, by omega⟩
 have zero : ∀ x16 : Bool, x16 = true → impl_ValDo.j0 (k + 3) op x16 a0 a1 a2 b0 b1 b2 = some zeroV := by intro x h; subst h; rfl
 cases h1 : vOk a0 a1 a2
 ·rw [if_neg (by decide), zero true rfl]; unfold doV; rw [if_neg (by rw [h1]; simp)]
 rw [if_pos rfl, impl_valOk_at b0 b1 b2 (by omega) (k + 3) (by omega), bsome]
 cases h2 : vOk b0 b1 b2
 ·show impl_ValDo.j0 (k + 3) op true a0 a1 a2 b0 b1 b2 = _
  rw [zero true rfl]; unfold doV; rw [if_neg (by rw [h2]; simp)]
 have key : ∀ x19 : Bool, (x19 = true ↔ (0 ≤ op ∧ op ≤ 3)) → impl_ValDo.j1 (k + 2) op op x19 a0 a1 a2 b0 b1 b2 = some (doV op a0 a1 a2 b0 b1 b2) := by
  intro x19 hx
  simp only [impl_ValDo.j1]
  unfold doV
  rw [if_pos (show vOk a0 a1 a2 = true ∧ vOk b0 b1 b2 = true from ⟨h1, h2⟩)]
  cases x19
  ·have hn : ¬ (0 ≤ op ∧ op ≤ 3) := fun h => by have := hx.2 h; cases this
   rw [if_neg (by decide)]
   by_cases e4 : op = 4
   ·rw [if_pos e4, if_pos e4, impl_truth_at, bsome]; rfl
   rw [if_neg e4, if_neg e4]
   by_cases e5 : op = 5
   ·rw [if_pos e5, if_pos e5, impl_show_at a0 a1 a2 (by omega) (k + 1) (by omega), bsome, impl_show_at b0 b1 b2 (by omega) (k + 1) (by omega), bsome]
    unfold shown
    rw [if_pos h1, if_pos h2]
    have l1 := shw_size h1
    have l2 := shw_size h2
    rw [if_pos (by omega), impl_valOk_at 2 0 _ (by rw [bytes_size_append]; omega) (k + 1) (by rw [bytes_size_append]; omega), bsome, word_vOk]
    unfold joinV zeroV
    split <;> rfl
   rw [if_neg e5, if_neg e5]
   by_cases e6 : op = 6
   ·rw [if_pos e6, if_pos e6, impl_true_at a0 a1 a2 (by omega) (k + 1) (by omega), bsome]
    split <;> rfl
   rw [if_neg e6, if_neg e6, if_neg (show ¬ (0 ≤ op ∧ op ≤ 3 ∧ a0 = 1 ∧ b0 = 1) from fun h => hn ⟨h.1, h.2.1⟩)]; rfl
  ·have hn := hx.1 rfl
   rw [if_pos rfl, if_neg (show ¬ op = 4 by omega), if_neg (show ¬ op = 5 by omega), if_neg (show ¬ op = 6 by omega)]
   have j2t : impl_ValDo.j2 (k + 1) op true a0 a1 a2 b0 b1 b2 = some zeroV := rfl
   by_cases f1 : a0 = 1
   ·rw [if_pos f1]
    by_cases f2 : b0 = 1
    ·rw [if_pos (show 0 ≤ op ∧ op ≤ 3 ∧ a0 = 1 ∧ b0 = 1 from ⟨hn.1, hn.2, f1, f2⟩), show (b0 != 1) = false from bne_eq_false_iff_eq.mpr f2]
     have n1 := vOk_num h1 f1
     have n2 := vOk_num h2 f2
     have n3 := mul_in n1 n2
     simp only [impl_ValDo.j2]
     rw [if_neg (by decide)]
     by_cases o0 : op = 0
     ·rw [if_pos o0, if_pos o0, w64 (by omega) (by omega), impl_j3_at _ k (by omega)]
     rw [if_neg o0, if_neg o0]
     by_cases o1 : op = 1
     ·rw [if_pos o1, if_pos o1, w64 (by omega) (by omega), impl_j3_at _ k (by omega)]
     rw [if_neg o1, if_neg o1]
     by_cases o2 : op = 2
     ·rw [if_pos o2, if_pos o2, w64 (by omega) (by omega), impl_j3_at _ k (by omega)]
     rw [if_neg o2, if_neg o2, impl_truth_at, bsome]
    ·rw [if_neg (show ¬ (0 ≤ op ∧ op ≤ 3 ∧ a0 = 1 ∧ b0 = 1) from fun h => f2 h.2.2.2), show (b0 != 1) = true from bne_iff_ne.mpr f2, j2t]
   ·rw [if_neg f1, if_neg (show ¬ (0 ≤ op ∧ op ≤ 3 ∧ a0 = 1 ∧ b0 = 1) from fun h => f1 h.2.2.1), j2t]
 rw [show (!true) = false from rfl]
 show impl_ValDo.j0 (k + 2 + 1) op false a0 a1 a2 b0 b1 b2 = _
 simp only [impl_ValDo.j0]
 rw [if_neg (by decide)]
 by_cases o0 : op = 0
 ·rw [if_pos o0]; exact key _ (by simp [o0])
 rw [if_neg o0]
 by_cases o1 : op = 1
 ·rw [if_pos o1]; exact key _ (by simp [o1])
 rw [if_neg o1]
 by_cases o2 : op = 2
 ·rw [if_pos o2]; exact key _ (by simp [o2])
 rw [if_neg o2]
 exact key _ (by rw [beq_iff_eq]; omega)
theorem spec_number_at (n : Int) : spec_number.f n = some (numV n) := by
 unfold spec_number.f numV zeroV
 rw [inRange_at, bsome]
 simp only [decide_eq_true_eq]
 split <;> rfl
theorem spec_boolean_at (b : Bool) : spec_boolean.f b = some (truV b) := by
 unfold spec_boolean.f truV
 cases b
 ·rw [if_neg (by decide), spec_number_at, bsome]; rfl
 ·rw [if_pos rfl, spec_number_at, bsome]; rfl
theorem spec_do_at (op a0 a1 : Int) (a2 : ByteArray) (b0 b1 : Int) (b2 : ByteArray) (hop : 0 ≤ op ∧ op ≤ 6) (h1 : vOk a0 a1 a2 = true) (h2 : vOk b0 b1 b2 = true) (ha : a2.size ≤ 1048576) (hb : b2.size ≤ 1048576) (k : Nat) (hk : 4194304 < k) : spec_do.f k op a0 a1 a2 b0 b1 b2 = some (doV op a0 a1 a2 b0 b1 b2) := by
 obtain ⟨k, rfl⟩ : ∃ q, k = q + 1 := ⟨k - 1, by omega⟩
 have key : ∀ x7 : Bool, (x7 = true ↔ (a0 = 1 ∧ b0 = 1)) → spec_do.j0 (k + 1) op x7 a0 a1 a2 b0 b1 b2 = some (doV op a0 a1 a2 b0 b1 b2) := by
  intro x7 hx
  simp only [spec_do.j0]
  unfold doV
  rw [if_pos (show vOk a0 a1 a2 = true ∧ vOk b0 b1 b2 = true from ⟨h1, h2⟩)]
  by_cases e4 : op = 4
  ·rw [if_pos e4, if_pos e4, spec_boolean_at, bsome]; rfl
  rw [if_neg e4, if_neg e4]
  by_cases e6 : op = 6
  ·rw [if_pos e6, if_neg (show ¬ op = 5 by omega), if_pos e6, spec_truth_at, bsome]
   unfold vTrue
   rw [h1, Bool.true_and]
   split <;> rfl
  rw [if_neg e6]
  by_cases e5 : op = 5
  ·rw [if_pos e5, if_pos e5, spec_show_at a0 a1 a2 h1 k (by omega), bsome, spec_show_at b0 b1 b2 h2 k (by omega), bsome]
   have l1 := shw_size h1
   have l2 := shw_size h2
   rw [if_pos (by omega), spec_word_at _ (by rw [bytes_size_append]; omega) k (by rw [bytes_size_append]; omega), bsome]
   unfold joinV zeroV
   split <;> rfl
  rw [if_neg e5, if_neg e5, if_neg e6]
  cases x7
  ·rw [if_neg (by decide), if_neg (show ¬ (0 ≤ op ∧ op ≤ 3 ∧ a0 = 1 ∧ b0 = 1) from fun h => by have := hx.2 h.2.2; cases this)]; rfl
  ·have hn := hx.1 rfl
   have n1 := vOk_num h1 hn.1
   have n2 := vOk_num h2 hn.2
   have n3 := mul_in n1 n2
   rw [if_pos rfl, if_pos (show 0 ≤ op ∧ op ≤ 3 ∧ a0 = 1 ∧ b0 = 1 from ⟨by omega, by omega, hn.1, hn.2⟩)]
   by_cases o0 : op = 0
   ·rw [if_pos o0, if_pos o0, w64 (by omega) (by omega), spec_number_at, bsome]
   rw [if_neg o0, if_neg o0]
   by_cases o1 : op = 1
   ·rw [if_pos o1, if_pos o1, w64 (by omega) (by omega), spec_number_at, bsome]
   rw [if_neg o1, if_neg o1]
   by_cases o2 : op = 2
   ·rw [if_pos o2, if_pos o2, w64 (by omega) (by omega), spec_number_at, bsome]
   rw [if_neg o2, if_neg o2, spec_boolean_at, bsome]
 unfold spec_do.f
 by_cases f1 : a0 = 1
 ·rw [if_pos f1]; exact key _ (by rw [beq_iff_eq]; exact ⟨fun h => ⟨f1, h⟩, fun h => h.2⟩)
 ·rw [if_neg f1]; exact key _ (by simp [f1])
theorem spec_ValDo_at (op a0 a1 : Int) (a2 : ByteArray) (b0 b1 : Int) (b2 : ByteArray) (ha : a2.size ≤ 1048576) (hb : b2.size ≤ 1048576) (k : Nat) (hk : 4194304 < k) : spec_ValDo.f k op a0 a1 a2 b0 b1 b2 = some (doV op a0 a1 a2 b0 b1 b2) := by
 unfold spec_ValDo.f
 rw [inRange_at, bsome, spec_val_at a0 a1 a2 (by omega) k (by omega), bsome, spec_val_at b0 b1 b2 (by omega) k (by omega), bsome]
 simp only [decide_eq_true_eq]
 by_cases h1 : vOk a0 a1 a2 = true
 ·by_cases h2 : vOk b0 b1 b2 = true
  ·by_cases hop : 0 ≤ op ∧ op ≤ 6
   ·rw [if_pos hop, if_pos h1, if_pos h2, spec_do_at op a0 a1 a2 b0 b1 b2 hop h1 h2 ha hb k hk, bsome]
   ·rw [if_neg hop]
    unfold doV
    rw [if_pos (show vOk a0 a1 a2 = true ∧ vOk b0 b1 b2 = true from ⟨h1, h2⟩), if_neg (show ¬ op = 4 by omega), if_neg (show ¬ op = 5 by omega), if_neg (show ¬ op = 6 by omega), if_neg (show ¬ (0 ≤ op ∧ op ≤ 3 ∧ a0 = 1 ∧ b0 = 1) from fun h => by omega)]; rfl
  ·have : doV op a0 a1 a2 b0 b1 b2 = zeroV := by unfold doV; rw [if_neg (fun h => h2 h.2)]
   rw [this, if_pos h1, if_neg h2]; split <;> rfl
 ·have : doV op a0 a1 a2 b0 b1 b2 = zeroV := by unfold doV; rw [if_neg (fun h => h1 h.1)]
  rw [this, if_neg h1]; split <;> rfl
def Src (l : List Int) (a f : Int) : Prop := (∀ x ∈ l, 0 ≤ x ∧ x ≤ 255) ∧ 0 ≤ a ∧ 0 ≤ f ∧ a + 2 * f ≤ 8000
theorem rd_in {l : List Int} {i : Int} (h0 : 0 ≤ i) (h1 : i < (l.length : Int)) : rd l i ∈ l := by
 have h : i.toNat < l.length := by omega
 unfold rd
 rw [List.getD_eq_getElem?_getD, List.getElem?_eq_getElem h]
 exact List.getElem_mem h
theorem pick_tells {l : List Int} {a f : Int} (n : Int) (h : Src l a f) (k : Nat) (hk : 0 < k) :
  ∃ v a' f', spec_source_pick.f k l a f n = some (v, a', f') ∧ 0 ≤ v ∧ (v < n ∨ v = 0) ∧ Src l a' f' := by
 obtain ⟨hb, ha, hf, haf⟩ := h
 obtain ⟨k, rfl⟩ : ∃ m, k = m + 1 := ⟨k - 1, by omega⟩
 have stop : ∃ v a' f', spec_source_pick.j0 (k + 1) n true l a f = some (v, a', f') ∧ 0 ≤ v ∧ (v < n ∨ v = 0) ∧ Src l a' f' :=
  ⟨0, a, f, by simp [spec_source_pick.j0], by omega, Or.inr rfl, hb, ha, hf, haf⟩
 unfold spec_source_pick.f
 by_cases h1 : n ≤ 1
 ·rw [if_pos h1]; exact stop
 rw [if_neg h1]
 by_cases h2 : f ≤ 0
 ·rw [if_pos h2]; exact stop
 rw [if_neg h2]
 by_cases h3 : (l.length : Int) = 0
 ·rw [show ((l.length : Int) == 0) = true from beq_iff_eq.mpr h3]; exact stop
 rw [show ((l.length : Int) == 0) = false from beq_eq_false_iff_ne.mpr h3]
 have hl : 0 < (l.length : Int) := by omega
 have m0 : 0 ≤ Int.tmod a (l.length : Int) := Int.tmod_nonneg _ ha
 have m1 : Int.tmod a (l.length : Int) < (l.length : Int) := Int.tmod_lt_of_pos _ hl
 have q0 : 0 ≤ Int.tdiv a (l.length : Int) := Int.tdiv_nonneg ha (by omega)
 have q1 : Int.tdiv a (l.length : Int) ≤ 8000 := by
  rw [Int.tdiv_eq_ediv_of_nonneg ha]
  have := Int.ediv_le_self (l.length : Int) ha
  omega
 have v0 := hb _ (rd_in m0 m1)
 simp only [spec_source_pick.j0]
 rw [if_neg (by simp), if_neg h3, if_pos m0, if_pos m1]
 generalize Int.tdiv a (l.length : Int) = q at *
 generalize rd l (Int.tmod a (l.length : Int)) = x at *
 rw [w64 (n := a + 1) (by omega) (by omega), w64 (n := f - 1) (by omega) (by omega), w64 (n := x) (by omega) (by omega),
  w64 (n := q) (by omega) (by omega), w64 (n := q * 31) (by omega) (by omega), w64 (n := x + q * 31) (by omega) (by omega)]
 by_cases h4 : n > 256
 ·have m0' : 0 ≤ Int.tmod (a + 1) (l.length : Int) := Int.tmod_nonneg _ (by omega)
  have m1' : Int.tmod (a + 1) (l.length : Int) < (l.length : Int) := Int.tmod_lt_of_pos _ hl
  have v1 := hb _ (rd_in m0' m1')
  generalize rd l (Int.tmod (a + 1) (l.length : Int)) = y at *
  rw [if_pos h4, if_pos m0', if_pos m1', if_neg (by omega), w64 (n := y) (by omega) (by omega),
   w64 (n := (x + q * 31) * 256) (by omega) (by omega), w64 (n := (x + q * 31) * 256 + y) (by omega) (by omega),
   w64 (n := a + 1 + 1) (by omega) (by omega)]
  exact ⟨_, _, _, rfl, Int.tmod_nonneg _ (by omega), Or.inl (Int.tmod_lt_of_pos _ (by omega)), hb, by omega, by omega, by omega⟩
 ·rw [if_neg h4, if_neg (by omega)]
  exact ⟨_, _, _, rfl, Int.tmod_nonneg _ (by omega), Or.inl (Int.tmod_lt_of_pos _ (by omega)), hb, by omega, by omega, by omega⟩
theorem src_new {l : List Int} (h : ∀ x ∈ l, (Lit.int .u8 x).wf = true) : Src l 0 4000 := by
 refine ⟨fun x hx => ?_, by omega, by omega, by omega⟩
 have := h x hx
 simp only [Lit.wf, IntKind.min, IntKind.max, IntKind.signed, IntKind.bits, Bool.and_eq_true, decide_eq_true_eq] at this
 simp at this
 omega
theorem one_tells {l : List Int} {a f : Int} (l1 : List Int) (hl : l1 ≠ []) (h : Src l a f) (k : Nat) (hk : 0 < k) :
  ∃ v a' f', spec_source_one.f k l a f l1 = some (v, a', f') ∧ v ∈ l1 ∧ Src l a' f' := by
 obtain ⟨v, a', f', he, h0, h1, hs⟩ := pick_tells (l1.length : Int) h k hk
 have hp : 0 < (l1.length : Int) := by
  have := List.length_pos_iff.mpr hl
  omega
 have hv : v < (l1.length : Int) := by omega
 refine ⟨rd l1 v, a', f', ?_, rd_in h0 hv, hs⟩
 unfold spec_source_one.f
 rw [he]; simp only [Option.bind_some]
 rw [if_pos h0, if_pos hv]
theorem rarely_tells {l : List Int} {a f : Int} (h : Src l a f) (k : Nat) (hk : 0 < k) : ∃ v a' f', spec_source_rarely.f k l a f = some (v, a', f') ∧ Src l a' f' := by
 obtain ⟨v, a', f', he, -, -, hs⟩ := pick_tells 40 h k hk
 refine ⟨(v == 1), a', f', ?_, hs⟩
 unfold spec_source_rarely.f
 rw [he, bsome]
theorem rdOf_in {α : Type} {d : α} {l : List α} {i : Int} (h0 : 0 ≤ i) (h1 : i < (l.length : Int)) : rdOf d l i ∈ l := by
 have h : i.toNat < l.length := by omega
 unfold rdOf
 rw [List.getD_eq_getElem?_getD, List.getElem?_eq_getElem h]
 exact List.getElem_mem h
theorem size_append (a b : ByteArray) : (a ++ b).size = a.size + b.size := ByteArray.size_append
theorem text_l {l : List Int} : ∀ (n k : Nat) (acc : ByteArray) (a f : Int), Src l a f → n + 1 < k → acc.size + 4 * n ≤ 1000 → ∃ r a' f', spec_source_text.l0 k acc (n : Int) l a f = some (r, a', f') ∧ r.size ≤ acc.size + 4 * n + 1 ∧ Src l a' f' := by
 intro n
 induction n with
 | zero =>
  intro k acc a f h hk hn
  obtain ⟨k, rfl⟩ : ∃ m, k = m + 1 := ⟨k - 1, by omega⟩
  simp only [spec_source_text.l0]
  rw [if_neg (by omega)]
  obtain ⟨v, a1, f1, e1, s1⟩ := rarely_tells h k (by omega)
  rw [e1, bsome]
  cases v with
  | true =>
   rw [if_pos rfl, if_pos (by omega)]
   exact ⟨_, _, _, rfl, by rw [size_append]; exact Nat.le_refl _, s1⟩
  | false =>
   rw [if_neg (by simp)]
   exact ⟨_, _, _, rfl, by omega, s1⟩
 | succ n ih =>
  intro k acc a f h hk hn
  obtain ⟨k, rfl⟩ : ∃ m, k = m + 1 := ⟨k - 1, by omega⟩
  simp only [spec_source_text.l0]
  rw [if_pos (by omega), bsome]
  obtain ⟨u1, a1, f1, e1, p1, q1, s1⟩ := pick_tells 6 h k (by omega)
  rw [e1, bsome]
  generalize hy : ([(⟨#[97]⟩ : ByteArray), (⟨#[98]⟩ : ByteArray), (⟨#[122, 57]⟩ : ByteArray), (⟨#[32]⟩ : ByteArray), (⟨#[48]⟩ : ByteArray), (⟨#[108, 111, 110, 103]⟩ : ByteArray)] : List ByteArray) = y
  have hyl : y.length = 6 := by subst hy; rfl
  have hys : ∀ b ∈ y, b.size ≤ 4 := by
   subst hy
   intro b hb
   simp only [List.mem_cons, List.not_mem_nil, or_false] at hb
   rcases hb with rfl | rfl | rfl | rfl | rfl | rfl <;> decide
  have hu : u1 < (y.length : Int) := by omega
  have hb := hys _ (rdOf_in (d := ByteArray.empty) p1 hu)
  rw [if_pos p1, if_pos hu]
  generalize rdOf ByteArray.empty y u1 = b at *
  rw [if_pos (by omega), w64 (by omega) (by omega), show ((n + 1 : Nat) : Int) - 1 = (n : Int) by omega]
  obtain ⟨r, a', f', er, hr, sr⟩ := ih k (acc ++ b) a1 f1 s1 (by omega) (by rw [size_append]; omega)
  exact ⟨r, a', f', er, by rw [size_append] at hr; omega, sr⟩
theorem text_tells {l : List Int} {a f : Int} (h : Src l a f) (k : Nat) (hk : 10 < k) : ∃ r a' f', spec_source_text.f k l a f = some (r, a', f') ∧ r.size ≤ 20 ∧ Src l a' f' := by
 unfold spec_source_text.f
 obtain ⟨v1, a1, f1, e1, p1, q1, s1⟩ := pick_tells 4 h k (by omega)
 rw [e1, bsome]
 obtain ⟨r, a3, f3, e3, h3, s3⟩ := text_l v1.toNat k (⟨#[]⟩ : ByteArray) a1 f1 s1 (by omega) (by show 0 + 4 * v1.toNat ≤ 1000; omega)
 rw [show ((v1.toNat : Nat) : Int) = v1 by omega] at e3
 refine ⟨r, a3, f3, e3, ?_, s3⟩
 have h0 : (⟨#[]⟩ : ByteArray).size = 0 := rfl
 omega
theorem value_tells {l : List Int} {a f : Int} (h : Src l a f) (k : Nat) (hk : 10 < k) : ∃ x y z a' f', spec_source_value.f k l a f = some (x, y, z, a', f') ∧ z.size ≤ 20 ∧ (-1001 ≤ y ∧ y ≤ 1001) ∧ (0 ≤ x ∧ x ≤ 2) ∧ Src l a' f' := by
 unfold spec_source_value.f
 obtain ⟨v1, a1, f1, e1, p1, q1, s1⟩ := pick_tells 6 h k (by omega)
 rw [e1, bsome]
 have h0 : (⟨#[]⟩ : ByteArray).size ≤ 20 := by decide
 by_cases c0 : v1 = 0
 ·rw [if_pos c0]; exact ⟨_, _, _, _, _, rfl, h0, by omega, by omega, s1⟩
 rw [if_neg c0]
 by_cases c1 : v1 = 1
 ·rw [if_pos c1]
  obtain ⟨r, a2, f2, e2, h2, s2⟩ := text_tells s1 k hk
  rw [e2, bsome]; exact ⟨_, _, _, _, _, rfl, h2, by omega, by omega, s2⟩
 rw [if_neg c1]
 by_cases c2 : v1 = 2
 ·rw [if_pos c2]
  obtain ⟨v2, a2, f2, e2, m2, s2⟩ := one_tells [0, 1, -1, 1000, -1000, 500, 1001] (by simp) s1 k (by omega)
  rw [e2, bsome]
  refine ⟨_, _, _, _, _, rfl, h0, ?_, by omega, s2⟩
  simp at m2; omega
 rw [if_neg c2]
 obtain ⟨v2, a2, f2, e2, p2, q2, s2⟩ := pick_tells 6 s1 k (by omega)
 rw [e2, bsome]
 refine ⟨_, _, _, _, _, rfl, h0, ?_, by omega, s2⟩
 rw [w64 (by omega) (by omega)]; omega
theorem zero_ok : vOk 0 0 (⟨#[]⟩ : ByteArray) = true := by unfold vOk; rw [if_pos rfl, if_pos rfl, empty_list]; rfl
theorem num_ok (n : Int) (h : -1000 ≤ n ∧ n ≤ 1000) : vOk 1 n (⟨#[]⟩ : ByteArray) = true := by
 unfold vOk; rw [if_neg (by decide), if_pos rfl, if_pos h, empty_list]; rfl
def okV (v : Val) : Bool := vOk v.1 v.2.1 v.2.2
theorem numV_ok (n : Int) : okV (numV n) = true := by
 unfold numV
 split
 ·rename_i h; exact num_ok n h
 ·exact zero_ok
theorem truV_ok (b : Bool) : okV (truV b) = true := by
 cases b
 ·exact num_ok 0 (by decide)
 ·exact num_ok 1 (by decide)
theorem joinV_ok (s : ByteArray) : okV (joinV s) = true := by
 unfold joinV
 split
 ·rename_i h; exact h
 ·exact zero_ok
theorem doV_ok (op a0 a1 : Int) (a2 : ByteArray) (b0 b1 : Int) (b2 : ByteArray) : okV (doV op a0 a1 a2 b0 b1 b2) = true := by
 unfold doV
 split
 ·rename_i h
  split
  ·exact truV_ok _
  ·split
   ·exact joinV_ok _
   ·split
    ·split
     ·exact h.2
     ·exact h.1
    ·split
     ·split
      ·exact numV_ok _
      ·split
       ·exact numV_ok _
       ·split
        ·exact numV_ok _
        ·exact truV_ok _
     ·exact zero_ok
 ·exact zero_ok
theorem sameV_comm (a0 a1 : Int) (a2 : ByteArray) (b0 b1 : Int) (b2 : ByteArray) : sameV a0 a1 a2 b0 b1 b2 = sameV b0 b1 b2 a0 a1 a2 := by
 unfold sameV
 rw [Bool.beq_comm (a := a0), Bool.beq_comm (a := a1), Bool.beq_comm (a := a2.toList)]
theorem doV_comm (op a0 a1 : Int) (a2 : ByteArray) (b0 b1 : Int) (b2 : ByteArray) (h : op = 0 ∨ op = 2 ∨ op = 4) : doV op a0 a1 a2 b0 b1 b2 = doV op b0 b1 b2 a0 a1 a2 := by
 unfold doV
 rw [sameV_comm, Int.add_comm a1 b1, Int.mul_comm a1 b1]
 have two : ∀ x y : Val, x = y → (if vOk a0 a1 a2 = true ∧ vOk b0 b1 b2 = true then x else zeroV) = (if vOk b0 b1 b2 = true ∧ vOk a0 a1 a2 = true then y else zeroV) := by
  intro x y e
  by_cases hab : vOk a0 a1 a2 = true ∧ vOk b0 b1 b2 = true
  ·rw [if_pos hab, if_pos (show vOk b0 b1 b2 = true ∧ vOk a0 a1 a2 = true from ⟨hab.2, hab.1⟩), e]
  ·rw [if_neg hab, if_neg (show ¬ (vOk b0 b1 b2 = true ∧ vOk a0 a1 a2 = true) from fun h => hab ⟨h.2, h.1⟩)]
 refine two _ _ ?_
 rcases h with rfl | rfl | rfl
 ·by_cases h3 : a0 = 1 <;> by_cases h4 : b0 = 1 <;> simp [h3, h4]
 ·by_cases h3 : a0 = 1 <;> by_cases h4 : b0 = 1 <;> simp [h3, h4]
 ·rfl
theorem doDraw {l : List Int} (h : Src l 0 4000) (k : Nat) (hk : 10 < k) : ∃ op a0 a1 a2 b0 b1 b2, spec_DrawValDo.f k l = some (op, a0, a1, a2, b0, b1, b2) ∧ a2.size ≤ 20 ∧ b2.size ≤ 20 := by
 unfold spec_DrawValDo.f spec_newSource.f
 rw [bsome]
 obtain ⟨v1, x1, f1, e1, p1, q1, s1⟩ := pick_tells 7 h k (by omega)
 show ∃ op a0 a1 a2 b0 b1 b2, Option.bind (spec_source_pick.f k l 0 4000 7) _ = some (op, a0, a1, a2, b0, b1, b2) ∧ _
 rw [e1, bsome]
 obtain ⟨v2, x2, f2, e2, p2, q2, s2⟩ := pick_tells 7 s1 k (by omega)
 show ∃ op a0 a1 a2 b0 b1 b2, Option.bind (spec_source_pick.f k l x1 f1 7) _ = some (op, a0, a1, a2, b0, b1, b2) ∧ _
 rw [e2, bsome]
 obtain ⟨v3, x3, f3, e3, p3, q3, s3⟩ := pick_tells 9 s2 k (by omega)
 show ∃ op a0 a1 a2 b0 b1 b2, Option.bind (spec_source_pick.f k l x2 f2 9) _ = some (op, a0, a1, a2, b0, b1, b2) ∧ _
 rw [e3, bsome]
 obtain ⟨v4, x4, f4, e4, m4, s4⟩ := one_tells [v1, v2, wrap64 (v3 - 1)] (by simp) s3 k (by omega)
 show ∃ op a0 a1 a2 b0 b1 b2, Option.bind (spec_source_one.f k l x3 f3 [v1, v2, wrap64 (v3 - 1)]) _ = some (op, a0, a1, a2, b0, b1, b2) ∧ _
 rw [e4, bsome]
 obtain ⟨a0, a1, a2, x5, f5, e5, h5, -, -, s5⟩ := value_tells s4 k (by omega)
 show ∃ op a0 a1 a2 b0 b1 b2, Option.bind (spec_source_value.f k l x4 f4) _ = some (op, a0, a1, a2, b0, b1, b2) ∧ _
 rw [e5, bsome]
 obtain ⟨b0, b1, b2, x6, f6, e6, h6, -, -, s6⟩ := value_tells s5 k (by omega)
 show ∃ op a0 a1 a2 b0 b1 b2, Option.bind (spec_source_value.f k l x5 f5) _ = some (op, a0, a1, a2, b0, b1, b2) ∧ _
 rw [e6, bsome]
 obtain ⟨v7, x7, f7, e7, p7, q7, s7⟩ := pick_tells 6 s6 k (by omega)
 show ∃ op a0 a1 a2 b0 b1 b2, Option.bind (spec_source_pick.f k l x6 f6 6) _ = some (op, a0, a1, a2, b0, b1, b2) ∧ _
 rw [e7, bsome]
 split
 ·exact ⟨_, _, _, _, _, _, _, rfl, h5, h5⟩
 ·exact ⟨_, _, _, _, _, _, _, rfl, h5, h6⟩
theorem small_of_nil {s : ByteArray} (h : s.toList = []) : s.size ≤ 4000 := by
 rw [ByteArray.toList_eq] at h
 have h2 : s.data.size = 0 := by rw [← Array.length_toList, h]; rfl
 have : s.size = 0 := h2
 omega
theorem FnValDo : laws_FnValDo.Pure := by
 intro l _ _ hl
 obtain ⟨k, hk⟩ : ∃ k : Nat, k = 8388608 := ⟨_, rfl⟩
 refine ⟨k + 1, ?_⟩
 unfold laws_FnValDo.f
 by_cases hlen : (l.length : Int) > 1048576
 ·rw [if_pos hlen]
 rw [if_neg hlen]
 obtain ⟨op, a0, a1, a2, b0, b1, b2, e1, ha, hb⟩ := doDraw (src_new hl) (k + 1) (by omega)
 rw [e1, bsome]
 show Option.bind (impl_ValDo.f (k + 1) op a0 a1 a2 b0 b1 b2) _ = _
 rw [impl_do_at op a0 a1 a2 b0 b1 b2 (by omega) (by omega) (k + 1) (by omega), bsome]
 show Option.bind (spec_ValDo.f (k + 1) op a0 a1 a2 b0 b1 b2) _ = _
 rw [spec_ValDo_at op a0 a1 a2 b0 b1 b2 (by omega) (by omega) (k + 1) (by omega), bsome]
 have ho := doV_ok op a0 a1 a2 b0 b1 b2
 have hc := doV_comm op a0 a1 a2 b0 b1 b2
 generalize hv : doV op a0 a1 a2 b0 b1 b2 = v at *
 obtain ⟨v0, v1, v2⟩ := v
 have hsz : v2.size ≤ 4000 := by
  have h1 : vOk v0 v1 v2 = true := ho
  unfold vOk at h1
  by_cases c0 : v0 = 0
  ·rw [if_pos c0] at h1
   by_cases c1 : v1 = 0
   ·rw [if_pos c1] at h1; rw [beq_iff_eq] at h1; exact small_of_nil h1
   ·rw [if_neg c1] at h1; cases h1
  rw [if_neg c0] at h1
  by_cases c1 : v0 = 1
  ·rw [if_pos c1] at h1
   by_cases c2 : -1000 ≤ v1 ∧ v1 ≤ 1000
   ·rw [if_pos c2] at h1; rw [beq_iff_eq] at h1; exact small_of_nil h1
   ·rw [if_neg c2] at h1; cases h1
  rw [if_neg c1] at h1
  by_cases c2 : v0 = 2
  ·rw [if_pos c2] at h1
   by_cases c3 : v1 = 0
   ·rw [if_pos c3] at h1; unfold wordOk at h1; simp only [Bool.and_eq_true, decide_eq_true_eq] at h1; omega
   ·rw [if_neg c3] at h1; cases h1
  rw [if_neg c2] at h1; cases h1
 have hself : (v0 == v0 && (v1 == v1 && (v2.toList == v2.toList))) = true := by simp
 show (if (v0 == v0 && (v1 == v1 && (v2.toList == v2.toList))) = true then Option.bind (impl_ValOk.f (k + 1) a0 a1 a2) _ else laws_FnValDo.j0 (k + 1) op (v0 == v0 && (v1 == v1 && (v2.toList == v2.toList))) true a0 a1 a2 b0 b1 b2 v0 v1 v2) = _
 rw [if_pos hself, hself, impl_valOk_at a0 a1 a2 (by omega) (k + 1) (by omega), bsome]
 have jt : laws_FnValDo.j0 (k + 1) op true true a0 a1 a2 b0 b1 b2 v0 v1 v2 = some true := rfl
 by_cases g1 : vOk a0 a1 a2 = true
 ·rw [if_pos g1]
  show Option.bind (impl_ValOk.f (k + 1) b0 b1 b2) _ = _
  rw [impl_valOk_at b0 b1 b2 (by omega) (k + 1) (by omega), bsome]
  by_cases g2 : vOk b0 b1 b2 = true
  ·rw [if_pos g2]
   have jf : laws_FnValDo.j0 (k + 1) op true false a0 a1 a2 b0 b1 b2 v0 v1 v2 = some true := by
    simp only [laws_FnValDo.j0]
    rw [if_neg (by decide), impl_valOk_at v0 v1 v2 (by omega) k (by omega), bsome, if_pos (show vOk v0 v1 v2 = true from ho)]
    rw [impl_do_at op b0 b1 b2 a0 a1 a2 (by omega) (by omega) k (by omega), bsome]
    by_cases o0 : op = 0
    ·rw [if_pos o0, ← hc (.inl o0)]; simp
    rw [if_neg o0]
    by_cases o2 : op = 2
    ·rw [if_pos o2, ← hc (.inr (.inl o2))]; simp
    rw [if_neg o2]
    by_cases o4 : op = 4
    ·rw [if_pos o4, ← hc (.inr (.inr o4))]; simp
    rw [if_neg o4]
   show (if op < 0 then laws_FnValDo.j0 (k + 1) op true true a0 a1 a2 b0 b1 b2 v0 v1 v2 else laws_FnValDo.j0 (k + 1) op true (decide (op > 6)) a0 a1 a2 b0 b1 b2 v0 v1 v2) = _
   by_cases q : op < 0
   ·rw [if_pos q, jt]
   ·rw [if_neg q]
    cases decide (op > 6)
    ·exact jf
    ·exact jt
  ·rw [if_neg g2]; exact jt
 ·rw [if_neg g1]; exact jt
end Go.Proofs.YthbodcpgdllegaaDoor.Pure
