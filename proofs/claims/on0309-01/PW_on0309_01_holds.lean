import PyProof.Rows.All
import Wide.All
import OpenK.AllK
import Wide.FinOn
import PyProof.Rows.SortShellK
import PyProof.Rows.SortReads
import KE.KDictSum
import KE.KSortTup
import PyProof.Draws
import PyProof.EnumMake
import KE.KPop
import KE.KEqDict
import Lean
import PySem.Challenge.RW_on0309_01
set_option Elab.async false

/-! HD -/
section
open PySem PySem.W PyProof.Rows
set_option Elab.async false
set_option maxRecDepth 100000
set_option maxHeartbeats 8000000
namespace Mine
/-- the law's text without the names of its modules -/
def view : Program := { PySem.Challenge.rw_on0309_01.row.prog with main := { PySem.Challenge.rw_on0309_01.row.prog.main with body :=
  match PySem.Challenge.rw_on0309_01.row.prog.main.body with
  | _ :: a :: _ :: b :: _ :: r => a :: b :: r
  | l => l } }
local macro_rules | `(tactic| o_head $H) => `(tactic| (
  refine holds_open (q := Mine.view) (loose := []) (Xt := fun s => xlAt Mine.view [] s && recOk (RowW.records PySem.Challenge.rw_on0309_01.row.toRowW) s) (XP := XL Mine.view []) (Yf := Hook.obs $H) (Ya := Hook.val $H) (YP := Hook.says $H) (N := 2450) ?hl
    (Hook.of $H) (Hook.keeps $H) (fun s e => xl_of s (Bool.and_eq_true_iff.mp e).1) XL.keeps (by rfl) (by rfl) (by rfl) (fun s e => recFacts_of (Bool.and_eq_true_iff.mp e).2) (by rfl) (by first | assumption | decide +kernel) (by decide +kernel) ⟨rfl, rfl, rfl, rfl, rfl, by decide +kernel⟩ ?hw ?hc
  case hl => (intro w; kernel_rfl)))
open_top hd for PySem.Challenge.rw_on0309_01
end Mine
end

/-! A0 -/
section
namespace Mine
/-! facts side by side, and witnesses side by side: one case split each (small proofs) -/
inductive A3 (a b c : Prop) : Prop
  | mk (_ : a) (_ : b) (_ : c)
inductive A4 (a b c d : Prop) : Prop
  | mk (_ : a) (_ : b) (_ : c) (_ : d)
inductive A5 (a b c d e : Prop) : Prop
  | mk (_ : a) (_ : b) (_ : c) (_ : d) (_ : e)
inductive A6 (a b c d e f : Prop) : Prop
  | mk (_ : a) (_ : b) (_ : c) (_ : d) (_ : e) (_ : f)
inductive A7 (a b c d e f g : Prop) : Prop
  | mk (_ : a) (_ : b) (_ : c) (_ : d) (_ : e) (_ : f) (_ : g)
inductive A8 (a b c d e f g h : Prop) : Prop
  | mk (_ : a) (_ : b) (_ : c) (_ : d) (_ : e) (_ : f) (_ : g) (_ : h)
inductive A9 (a b c d e f g h i : Prop) : Prop
  | mk (_ : a) (_ : b) (_ : c) (_ : d) (_ : e) (_ : f) (_ : g) (_ : h) (_ : i)
inductive A10 (a b c d e f g h i j : Prop) : Prop
  | mk (_ : a) (_ : b) (_ : c) (_ : d) (_ : e) (_ : f) (_ : g) (_ : h) (_ : i) (_ : j)
inductive A13 (a b c d e f g h i j k l m : Prop) : Prop
  | mk (_ : a) (_ : b) (_ : c) (_ : d) (_ : e) (_ : f) (_ : g) (_ : h) (_ : i) (_ : j) (_ : k) (_ : l) (_ : m)
inductive E2 {α0 α1 : Type} (p : α0 → α1 → Prop) : Prop
  | mk (x0 : α0) (x1 : α1) (_ : p x0 x1)
inductive E3 {α0 α1 α2 : Type} (p : α0 → α1 → α2 → Prop) : Prop
  | mk (x0 : α0) (x1 : α1) (x2 : α2) (_ : p x0 x1 x2)
inductive E4 {α0 α1 α2 α3 : Type} (p : α0 → α1 → α2 → α3 → Prop) : Prop
  | mk (x0 : α0) (x1 : α1) (x2 : α2) (x3 : α3) (_ : p x0 x1 x2 x3)
inductive E5 {α0 α1 α2 α3 α4 : Type} (p : α0 → α1 → α2 → α3 → α4 → Prop) : Prop
  | mk (x0 : α0) (x1 : α1) (x2 : α2) (x3 : α3) (x4 : α4) (_ : p x0 x1 x2 x3 x4)
inductive E7 {α0 α1 α2 α3 α4 α5 α6 : Type} (p : α0 → α1 → α2 → α3 → α4 → α5 → α6 → Prop) : Prop
  | mk (x0 : α0) (x1 : α1) (x2 : α2) (x3 : α3) (x4 : α4) (x5 : α5) (x6 : α6) (_ : p x0 x1 x2 x3 x4 x5 x6)
inductive E8 {α0 α1 α2 α3 α4 α5 α6 α7 : Type} (p : α0 → α1 → α2 → α3 → α4 → α5 → α6 → α7 → Prop) : Prop
  | mk (x0 : α0) (x1 : α1) (x2 : α2) (x3 : α3) (x4 : α4) (x5 : α5) (x6 : α6) (x7 : α7) (_ : p x0 x1 x2 x3 x4 x5 x6 x7)
inductive E6 {α0 α1 α2 α3 α4 α5 : Type} (p : α0 → α1 → α2 → α3 → α4 → α5 → Prop) : Prop
  | mk (x0 : α0) (x1 : α1) (x2 : α2) (x3 : α3) (x4 : α4) (x5 : α5) (_ : p x0 x1 x2 x3 x4 x5)
end Mine
end

/-! Q0 -/
section
set_option Elab.async false
set_option linter.unusedVariables false
namespace Mine
/-! small facts about Nat, each proved once -/
theorem qne {a b : Nat} (h : ¬ (a == b) = true) : a ≠ b := fun e => h (beq_iff_eq.mpr e)
theorem qm1 {l r : Nat} (h : l ≤ r) : l ≤ (l + r) / 2 := (Nat.le_div_iff_mul_le Nat.two_pos).2 (by rw [Nat.mul_two]; exact Nat.add_le_add_left h l)
theorem qm2 {l r : Nat} (h : l < r) : (l + r) / 2 < r := Nat.div_lt_of_lt_mul (by rw [Nat.two_mul]; exact Nat.add_lt_add_right h r)
theorem qn {k n : Nat} (h : ¬ (n - k == 0) = true) : k < n := Nat.lt_of_sub_pos (Nat.pos_of_ne_zero (qne h))
theorem qfh {t o n i : Nat} (h1 : t + min o (n - t) ≤ i) (h2 : t < n) (h3 : i < n) : min o (n - t) = o := by
  rcases Nat.le_total o (n - t) with c | c
  · exact Nat.min_eq_left c
  · rw [Nat.min_eq_right c, Nat.add_sub_of_le (Nat.le_of_lt h2)] at h1
    exact absurd h1 (Nat.not_le.mpr h3)
theorem qa1 {n m : Nat} (h1 : 0 < n) (h2 : n ≤ m) : n - 1 < m := Nat.lt_of_lt_of_le (Nat.sub_lt h1 Nat.one_pos) h2
theorem qa2 {n m : Nat} (h1 : 1 < n) (h2 : n ≤ m) : n - 1 < m := Nat.lt_of_lt_of_le (Nat.sub_lt (Nat.lt_trans Nat.one_pos h1) Nat.one_pos) h2
theorem qa3 {n m : Nat} (h1 : n ≤ m) : n - 1 ≤ m := Nat.le_trans (Nat.sub_le n 1) h1
theorem qa4 {j n : Nat} (h1 : j < n) : j ≤ n - 1 := Nat.le_sub_one_of_lt h1
theorem qa5 {n : Nat} (h1 : 0 < n) : n - 1 < n := Nat.sub_lt h1 Nat.one_pos
theorem qa6 {n : Nat} (h1 : 1 < n) : n - 1 - 1 < n - 1 := Nat.sub_lt (Nat.sub_pos_of_lt h1) Nat.one_pos
theorem qa7 {i j n : Nat} (h1 : i ≤ j) : n + i ≤ n + j := Nat.add_le_add_left h1 n
theorem qa8 {i n m : Nat} (h1 : i < n) (h2 : n ≤ m) : 0 + i < m := (Nat.zero_add i).symm ▸ Nat.lt_of_lt_of_le h1 h2
theorem qa9 {i n m : Nat} (h1 : i < n - 1) (h2 : n ≤ m) : 0 + i < m := (Nat.zero_add i).symm ▸ Nat.lt_of_lt_of_le h1 (qa3 h2)
theorem qa10 {k n m : Nat} (h1 : k ≤ n - 1) (h2 : n ≤ m) : k ≤ m := Nat.le_trans h1 (qa3 h2)
theorem qa11 {k n m : Nat} (h1 : 0 < k) (h2 : k ≤ n) (h3 : n ≤ m) : k - 1 < m := qa1 h1 (Nat.le_trans h2 h3)
theorem qa12 {k n m : Nat} (h1 : k ≤ n) (h2 : n ≤ m) : k - 1 ≤ m := qa3 (Nat.le_trans h1 h2)
theorem qa13 {k n : Nat} (h1 : k ≤ n - 1) (h2 : ¬ n - 1 - k > 0) : k = n - 1 := Nat.le_antisymm h1 (Nat.le_of_sub_eq_zero (Nat.eq_zero_of_not_pos h2))
theorem qa14 {k n : Nat} (h1 : k = n - 1) (h2 : n - 1 ≠ 1) (h3 : 1 < n) : 1 < k := by rw [h1]; exact Nat.lt_of_le_of_ne (Nat.le_sub_one_of_lt h3) (Ne.symm h2)
theorem qa15 {x y m n k j s : Nat} (h1 : j ≤ n - 1) (h2 : x + min y 1 + m + n < s) (h3 : 1 < n) (h4 : k ≤ m) (h5 : 0 < k) : x + min (y + 1) 1 + (k - 1) + j < s := Nat.lt_of_le_of_lt (Nat.add_le_add (Nat.le_trans (by rw [Nat.add_assoc]; exact Nat.add_le_add_left (Nat.le_trans (Nat.add_le_add_right (Nat.min_le_right _ 1) _) (Nat.le_of_eq (Nat.add_sub_of_le h5))) x) (Nat.add_le_add (Nat.le_add_right x _) h4)) (Nat.le_trans h1 (Nat.sub_le n 1))) h2
theorem qa16 {x y m n k j s : Nat} (h1 : j ≤ n - 1) (h2 : x + min y 1 + m + n < s) (h3 : 1 < n) (h4 : k ≤ m) (h5 : 0 < k) : x + min 1 1 + (k - 1) + j < s := by have := qa15 (y := y) h1 h2 h3 h4 h5; rwa [Nat.min_eq_right (Nat.le_add_left 1 y)] at this
theorem qa17 {x m n s : Nat} (h1 : 1 < n) (h2 : x + m + n < s) : x + m + (n - 1) < s := Nat.lt_of_le_of_lt (Nat.add_le_add_left (Nat.sub_le n 1) _) h2
theorem qa18 {x m n s : Nat} (h1 : 0 < m) (h2 : x + m + n < s) : x + (m - 1) + n < s := Nat.lt_of_le_of_lt (Nat.add_le_add_right (Nat.add_le_add_left (Nat.sub_le m 1) _) _) h2
theorem qa19 {n : Nat} (h1 : ¬ (n - 1 == 1) = true) (h2 : 1 < n) : 1 < n - 1 := Nat.lt_of_le_of_ne (Nat.le_sub_one_of_lt h2) (Ne.symm (qne h1))
theorem qa20 {k n : Nat} (h1 : k ≤ n) (h2 : ¬ n - k > 0) : k = n := Nat.le_antisymm h1 (Nat.le_of_sub_eq_zero (Nat.eq_zero_of_not_pos h2))
theorem qa21 {n m : Nat} (h1 : 0 < n) : 0 + (n - 1) + m < n + m := by rw [Nat.zero_add]; exact Nat.add_lt_add_right (qa5 h1) m
theorem qa22 {x i j a b s : Nat} (h1 : 0 < a) (h2 : x + min (max 0 (a + b)) 1 + i + j < s) : x + min 1 1 + i + j < s := by rwa [Nat.zero_max, Nat.min_eq_right (Nat.le_trans h1 (Nat.le_add_right a b))] at h2
theorem qa23 {x y m n k s : Nat} (h1 : x + min y 1 + m + n < s) (h2 : k ≤ m) : x + min y 1 + k + n < s := Nat.lt_of_le_of_lt (Nat.add_le_add_right (Nat.add_le_add_left h2 _) _) h1
theorem qa24 {k : Nat} (h1 : ¬ (k == 0) = true) : 0 < k := Nat.pos_of_ne_zero (qne h1)
theorem qa25 {n k : Nat} (h1 : ¬ (n - k == 0) = true) : 0 < n - k := qa24 h1
theorem qb1 {i m n : Nat} (h1 : i < m - n) : n + i < m := Nat.add_lt_of_lt_sub' h1
theorem qb2 {n k j m : Nat} (h1 : n + k + j < m) : k + j < m - n := by rw [Nat.add_assoc, Nat.add_comm] at h1; exact Nat.lt_sub_of_add_lt h1
theorem qb3 {n m : Nat} (h1 : n + 1 < m) : 0 < m - n := Nat.sub_pos_of_lt (Nat.lt_of_succ_lt h1)
theorem qb6 {n m : Nat} (h1 : n < m) (h2 : n + 1 ≠ m) : 0 < m - (n + 1) := Nat.sub_pos_of_lt (Nat.lt_of_le_of_ne h1 h2)
theorem qb7 {k m n : Nat} (h1 : k ≤ m - n) (h2 : k > 0) (h3 : ¬ (n + k == m) = true) : n + k < m := Nat.lt_of_le_of_ne (Nat.add_le_of_le_sub' (Nat.le_of_lt (Nat.lt_of_sub_pos (Nat.lt_of_lt_of_le h2 h1))) h1) (qne h3)
theorem qb8 {k m n : Nat} (h1 : k ≤ m - n) (h2 : k > 0) (h3 : ¬ (n + k + 1 == m) = true) (h4 : ¬ (n + k == m) = true) : n + k + 1 < m := Nat.lt_of_le_of_ne (qb7 h1 h2 h4) (qne h3)
theorem qb9 {x y i j k l : Nat} (h1 : x + min y 1 ≤ i + j) : x + min (y + 1) 1 ≤ i + k + 1 + (j + 1 + l) := Nat.le_trans (Nat.add_le_add_left (Nat.min_le_right _ 1) x) (Nat.le_trans (Nat.succ_le_succ (Nat.le_trans (Nat.le_add_right x _) h1)) (Nat.le_trans (Nat.le_of_eq (Nat.add_right_comm i j 1)) (Nat.add_le_add (Nat.add_le_add_right (Nat.le_add_right i k) 1) (Nat.le_trans (Nat.le_add_right j 1) (Nat.le_add_right _ l)))))
theorem qb10 {x y i j k l : Nat} (h1 : x + min y 1 ≤ i + j) : x + min 1 1 ≤ i + k + 1 + (j + 1 + l) := by have := qb9 (k := k) (l := l) h1; rwa [Nat.min_eq_right (Nat.le_add_left 1 y)] at this
theorem qb12 {n m : Nat} (h1 : n + 1 < m) (h2 : ¬ (n + 1 + 1 == m) = true) : n + 1 + 1 < m := Nat.lt_of_le_of_ne h1 (qne h2)
theorem qb13 {n m k : Nat} (h1 : n < m) (h2 : n + 1 ≠ m) (h3 : ¬ k > 0) : n + 1 + k < m := by rw [Nat.eq_zero_of_not_pos h3]; exact Nat.lt_of_le_of_ne h1 h2
theorem qb14 {n m k : Nat} (h1 : n + 1 < m) (h2 : ¬ k > 0) : n + k + 1 < m := by rw [Nat.eq_zero_of_not_pos h2]; exact h1
theorem qb15 {x i j a b : Nat} (h1 : 0 < a) (h2 : x + min (max 0 (a + b)) 1 ≤ i + j) : x + min 1 1 ≤ i + j := by rwa [Nat.zero_max, Nat.min_eq_right (Nat.le_trans h1 (Nat.le_add_right a b))] at h2
theorem qc18 {k n : Nat} (h1 : ¬ (n - k == 0) = true) : k + (n - k) = n := Nat.add_sub_of_le (Nat.le_of_lt (qn h1))
theorem qc1 {k n : Nat} (h1 : ¬ (n - k == 0) = true) : 0 + k + (n - k) - 1 = n - 1 := by rw [Nat.zero_add, qc18 h1]
theorem qc2 {k n : Nat} (h1 : ¬ (n - k == 0) = true) : k + (n - k - 1) = n - 1 := (Nat.add_sub_assoc (Nat.succ_le_of_lt (qa25 h1)) k).symm.trans (by rw [qc18 h1])
theorem qc3 {k n m A S : Nat} (h1 : S = A) (h2 : n + m = A) (h3 : ¬ (n - k == 0) = true) (h4 : 0 < m) : 0 + k + (n - k) - 1 < S := by subst h1; rw [qc1 h3, ← h2]; exact Nat.lt_of_le_of_lt (Nat.sub_le n 1) (Nat.lt_add_of_pos_right h4)
theorem qc4 {i k n : Nat} (h1 : ¬ (n - k == 0) = true) (h2 : i < k) : i ≤ n - 1 := Nat.le_sub_one_of_lt (Nat.lt_trans h2 (qn h1))
theorem qc5 {k n : Nat} (h1 : ¬ (n - k == 0) = true) : n - 1 < n := Nat.sub_lt (Nat.zero_lt_of_lt (qn h1)) Nat.one_pos
theorem qc7 {k n : Nat} (h1 : ¬ (n - k == 0) = true) : n - k - 1 < n - k := Nat.sub_lt (qa25 h1) Nat.one_pos
theorem qc8 {n m A S b : Nat} (h1 : S = A) (h2 : n + m = A) (h3 : b ≤ m) : min (n + b) S - n = b := by rw [Nat.min_eq_left (by rw [h1, ← h2]; exact Nat.add_le_add_left h3 n), Nat.add_sub_cancel_left]
theorem qc9 {n m A S k : Nat} (h1 : S = A) (h2 : n + m = A) : min n S - k = n - k := by rw [Nat.min_eq_left (by rw [h1, ← h2]; exact Nat.le_add_right n m)]
theorem qc10 {j k S : Nat} (h1 : j < min k S) : j < k := Nat.lt_of_lt_of_le h1 (Nat.min_le_left k S)
theorem qc11 {n m A S b j : Nat} (h1 : S = A) (h2 : n + m = A) (h3 : j < S - (n + b)) : n + b + j < n + m := by subst h1; rw [h2]; exact Nat.add_lt_of_lt_sub' h3
theorem qc17 {k n b : Nat} (h1 : ¬ (n - k == 0) = true) : k + (n - k + b) = n + b := by rw [← Nat.add_assoc, qc18 h1]
theorem qc12 {n m A S b k : Nat} (h1 : S = A) (h2 : n + m = A) (h3 : ¬ (n - k == 0) = true) (h4 : b ≤ m) : k + (n - k + b) ≤ S := by rw [qc17 h3, h1, ← h2]; exact Nat.add_le_add_left h4 n
theorem qc13 {k n b j : Nat} (h1 : j < n - k) : k + j < n + b := Nat.lt_of_lt_of_le (qb1 h1) (Nat.le_add_right n b)
theorem qc15 {n m A S j : Nat} (h1 : S = A) (h2 : n + m = A) (h3 : 0 < m) (h4 : j < S) : j - n < m := (Nat.le_total n j).elim (fun c => Nat.sub_lt_left_of_lt_add c (by rw [h2, ← h1]; exact h4)) (fun c => by rw [Nat.sub_eq_zero_of_le c]; exact h3)
theorem qc16 {k n : Nat} (h1 : k ≤ n) (h2 : ¬ (n - k == 0) = true) : k + 0 < n := Nat.lt_of_sub_pos (qa25 h2)
theorem qc19 {n b j : Nat} (h1 : j < b) : j < n + b - n := by rwa [Nat.add_sub_cancel_left]
theorem qc20 {i k n : Nat} (h1 : (n - k == 0) = true) (h2 : ¬ n ≤ i) : i < k := Nat.lt_of_lt_of_le (Nat.lt_of_not_le h2) (Nat.le_of_sub_eq_zero (beq_iff_eq.mp h1))
theorem qc21 {n b j : Nat} (h1 : n ≤ j) (h2 : j < n + b) : j - n < b := Nat.sub_lt_left_of_lt_add h1 h2
theorem qc22 {n j : Nat} (h1 : n ≤ j) : n + (j - n) = j := Nat.add_sub_of_le h1
theorem qc23 {n b j : Nat} (h1 : n + b ≤ j) : n + (j - n) = j := Nat.add_sub_of_le (Nat.le_trans (Nat.le_add_right n b) h1)
theorem qc24 {n b j : Nat} (h1 : n + b ≤ j) : b ≤ j - n := Nat.le_sub_of_add_le' h1
theorem qc25 {n i : Nat} (h1 : ¬ n ≤ i) : i ≤ n - 1 := Nat.le_sub_one_of_lt (Nat.lt_of_not_le h1)
theorem qd1 {x y l r : Nat} (h1 : r - l ≤ x - y) (h2 : ¬ l ≥ r) (h3 : y < x) : r - ((l + r) / 2 + 1) ≤ x - (y + 1) := Nat.le_trans (Nat.sub_le_sub_left (Nat.succ_le_succ (qm1 (Nat.le_of_not_le h2))) r) (Nat.sub_le_sub_right h1 1)
theorem qd2 {x y l r : Nat} (h1 : r - l ≤ x - y) (h2 : ¬ l ≥ r) (h3 : y < x) : (l + r) / 2 - l ≤ x - (y + 1) := Nat.le_trans (Nat.le_sub_one_of_lt (Nat.sub_lt_sub_right (qm1 (Nat.le_of_not_le h2)) (qm2 (Nat.lt_of_not_le h2)))) (Nat.sub_le_sub_right h1 1)
theorem qd3 {i j : Nat} (h1 : i ≤ j) : i - 1 ≤ j - 1 := Nat.sub_le_sub_right h1 1
theorem qd6 {o x l : Nat} (h1 : l ≤ x) : o + x - (o + x - (o + l)) = o + l := Nat.sub_sub_self (Nat.add_le_add_left h1 o)
theorem qd4 {o x l k : Nat} (h1 : l ≤ x) (h2 : k < o) : ¬ (o + x - (o + x - (o + l)) < k ∧ k ≤ o + x) := fun h => Nat.lt_irrefl _ (Nat.lt_trans h2 (Nat.lt_of_le_of_lt (Nat.le_add_right o l) (qd6 (o := o) h1 ▸ h.1)))
theorem qd5 {o x l k : Nat} (h1 : l ≤ x) (h2 : k < o) : ¬ k = o + x - (o + x - (o + l)) := fun h => Nat.lt_irrefl k (Nat.lt_of_lt_of_le h2 (by rw [h, qd6 h1]; exact Nat.le_add_right o l))
theorem qd7 {o x l i j : Nat} (h1 : i ≤ j) (h2 : ¬ i = o + l) (h3 : ¬ (o + l < i ∧ i ≤ o + x)) (h4 : o + l < j ∧ j ≤ o + x) : i ≤ j - 1 := Nat.le_sub_one_of_lt (Nat.lt_of_le_of_ne h1 fun e => h3 (e ▸ h4))
theorem qd8 {o x l i j : Nat} (h1 : j < o + (x + 1)) (h2 : o + l < i ∧ i ≤ o + x) (h3 : i ≤ j) : j - 1 < o + x := Nat.lt_of_lt_of_le (Nat.sub_lt (Nat.lt_of_lt_of_le (Nat.zero_lt_of_lt h2.1) h3) Nat.one_pos) (Nat.le_of_lt_succ h1)
theorem qd9 {o x l i j : Nat} (h1 : j < o + (x + 1)) (h2 : i = o + l) (h3 : ¬ j = o + l) (h4 : i ≤ j) : j - 1 < o + x := Nat.lt_of_lt_of_le (Nat.sub_lt (Nat.zero_lt_of_lt (Nat.lt_of_le_of_ne (h2 ▸ h4) (Ne.symm h3))) Nat.one_pos) (Nat.le_of_lt_succ h1)
theorem qd10 {o x l j : Nat} (h1 : j < o + (x + 1)) (h2 : o + l < j ∧ j ≤ o + x) : j - 1 < o + x := Nat.lt_of_lt_of_le (Nat.sub_lt (Nat.zero_lt_of_lt h2.1) Nat.one_pos) h2.2
theorem qd11 {o x : Nat} : o - x ≤ o := Nat.sub_le o x
theorem qd12 {n k : Nat} (h1 : k ≤ n) : min (max (max k 1) n) n = min n n := by rw [Nat.min_self]; exact Nat.min_eq_right (Nat.le_max_right _ n)
theorem qd13 {l r x : Nat} (h1 : r - l ≤ x - max 0 x) : r - l ≤ x - x := by rwa [Nat.zero_max] at h1
theorem qd14 {o n k j : Nat} (h1 : k ≤ n) (h2 : j < o + min (max k 1) n) (h3 : ¬ k = 0) : j < o + k := by rwa [Nat.max_eq_left (Nat.pos_of_ne_zero h3), Nat.min_eq_left h1] at h2
theorem qd15 {o n k i j : Nat} (h1 : o ≤ i) (h2 : i ≤ j) (h3 : j < o + min (max k 1) n) (h4 : k = 0) : i = j := by subst h4; exact Nat.le_antisymm h2 (Nat.le_trans (Nat.le_of_lt_succ (Nat.lt_of_lt_of_le h3 (Nat.add_le_add_left (Nat.min_le_left _ n) o))) h1)
theorem qd16 {o x l i : Nat} (h1 : o + l < i ∧ i ≤ o + x) : o ≤ i - 1 := Nat.le_sub_one_of_lt (Nat.lt_of_le_of_lt (Nat.le_add_right o l) h1.1)
theorem qd17 {o n l r x S : Nat} (h1 : o + n ≤ S) (h2 : x < n) (h3 : r ≤ x) (h4 : ¬ l ≥ r) : o + (l + r) / 2 < S := Nat.lt_of_lt_of_le (Nat.add_lt_add_left (Nat.lt_trans (Nat.lt_of_lt_of_le (qm2 (Nat.lt_of_not_le h4)) h3) h2) o) h1
theorem qd18 {o l i j : Nat} (h1 : i = o + l) (h2 : ¬ j = o + l) (h3 : i ≤ j) : o + l ≤ j - 1 := Nat.le_sub_one_of_lt (Nat.lt_of_le_of_ne (h1 ▸ h3) (Ne.symm h2))
theorem qd19 {o l j x : Nat} (h1 : l ≤ x) (h2 : j < o + (x + 1)) (h3 : ¬ j = o + l) (h4 : ¬ (o + l < j ∧ j ≤ o + x)) : j < o + x := Nat.lt_of_lt_of_le (Nat.lt_of_le_of_ne (Nat.le_of_not_lt fun c => h4 ⟨c, Nat.le_of_lt_succ h2⟩) h3) (Nat.add_le_add_left h1 o)
theorem qd20 {o l r x : Nat} (h1 : r ≤ x) (h2 : ¬ l ≥ r) : o + (l + r) / 2 < o + x := Nat.add_lt_add_left (Nat.lt_of_lt_of_le (qm2 (Nat.lt_of_not_le h2)) h1) o
theorem qe1 {x n l h : Nat} (h1 : h - l ≤ n - x) (h2 : ¬ l ≥ h) (h3 : x < n) : h - (l + (h - l) / 2 + 1) ≤ n - (x + 1) := Nat.le_trans (Nat.sub_le_sub_left (Nat.succ_le_succ (Nat.le_add_right l _)) h) (Nat.sub_le_sub_right h1 1)
theorem qg5 {l n : Nat} (h1 : ¬ l ≥ n) : 0 < n - l := Nat.sub_pos_of_lt (Nat.lt_of_not_le h1)
theorem qe2 {x n l h : Nat} (h1 : h - l ≤ n - x) (h2 : ¬ l ≥ h) (h3 : x < n) : l + (h - l) / 2 - l ≤ n - (x + 1) := by rw [Nat.add_sub_cancel_left]; exact Nat.le_trans (Nat.le_sub_one_of_lt (Nat.div_lt_self (qg5 h2) Nat.one_lt_two)) (Nat.sub_le_sub_right h1 1)
theorem qe3 {n l h : Nat} (h1 : l ≤ h) (h2 : h - l ≤ n - max 0 n) : l = h := Nat.le_antisymm h1 (Nat.le_of_sub_eq_zero (Nat.eq_zero_of_le_zero (by rwa [Nat.zero_max, Nat.sub_self] at h2)))
theorem qg6 {l n : Nat} (h1 : ¬ l ≥ n) : l + (n - l) = n := Nat.add_sub_of_le (Nat.le_of_not_le h1)
theorem qe6 {l h : Nat} (h1 : ¬ l ≥ h) : l + (h - l) / 2 + 1 ≤ h := Nat.lt_of_lt_of_eq (Nat.add_lt_add_left (Nat.div_lt_self (qg5 h1) Nat.one_lt_two) l) (qg6 h1)
theorem qe4 {n l h : Nat} (h1 : h ≤ n) (h2 : ¬ l ≥ h) : l + (h - l) / 2 < n := Nat.lt_of_lt_of_le (qe6 h2) h1
theorem qe5 {n l h : Nat} (h1 : h ≤ n) (h2 : ¬ l ≥ h) : l + (h - l) / 2 ≤ n := Nat.le_of_lt (qe4 h1 h2)
theorem qe7 {n l h : Nat} (h1 : h ≤ n) : h - l ≤ n - 0 := Nat.le_trans (Nat.sub_le h l) h1
theorem qe8 {n k : Nat} : n ≤ n + k := Nat.le_add_right n k
theorem qf1 {n t o i : Nat} (h1 : t + min o (n - t) ≤ i) (h2 : t < n) (h3 : i < n) : t + o < n := by rw [qfh h1 h2 h3] at h1; exact Nat.lt_of_le_of_lt h1 h3
theorem qf2 {n t o i : Nat} (h1 : t + min o (n - t) ≤ i) (h2 : t < n) (h3 : i < n) : t + o ≤ i := by rwa [qfh h1 h2 h3] at h1
theorem qf3 {n t o l : Nat} (h1 : l < o) (h2 : t + l < n) : t + l + 1 ≤ t + min o (n - t) := Nat.add_le_add_left (Nat.le_min.mpr ⟨h1, Nat.le_sub_of_add_le' h2⟩) t
theorem qf4 {n t l : Nat} (h1 : t < n) : t - l < n := Nat.lt_of_le_of_lt (Nat.sub_le t l) h1
theorem qf5 {n t l : Nat} (h1 : t < n) : t - l ≤ n := Nat.le_of_lt (qf4 h1)
theorem qf7 {i t o : Nat} (h1 : i < t + 1 - min o (t + 1)) : o ≤ t := (Nat.lt_or_ge t o).elim (fun c => by rw [Nat.min_eq_right c, Nat.sub_self] at h1; exact absurd h1 (Nat.not_lt_zero i)) fun c => c
theorem qf6 {i t o : Nat} (h1 : i < t + 1 - min o (t + 1)) : i ≤ t - o := by rw [Nat.min_eq_left (Nat.le_succ_of_le (qf7 h1))] at h1; exact Nat.le_sub_of_add_le (Nat.le_of_lt_succ (Nat.add_lt_of_lt_sub h1))
theorem qf8 {l t o : Nat} (h1 : l < o) (h2 : l ≤ t) : t + 1 - min o (t + 1) ≤ t - l := (Nat.add_sub_add_right t 1 l) ▸ Nat.sub_le_sub_left (Nat.le_min.mpr ⟨h1, Nat.succ_le_succ h2⟩) (t + 1)
theorem qf9 {n t o : Nat} (h1 : t < n) : t + min o (n - t) ≤ n := Nat.le_trans (Nat.add_le_add_left (Nat.min_le_right o _) t) (Nat.le_of_eq (Nat.add_sub_of_le (Nat.le_of_lt h1)))
theorem qf10 {n t o : Nat} (h1 : ¬ o ≥ n - t) (h2 : t < n) : t + o < n := Nat.add_lt_of_lt_sub' (Nat.lt_of_not_le h1)
theorem qg1 {m n r : Nat} (h1 : m ≤ n - 0) (h2 : m < r) : m ≤ min (n - 0) r := Nat.le_min.mpr ⟨h1, Nat.le_of_lt h2⟩
theorem qg2 {n m r : Nat} (h1 : n - r ≤ r) (h2 : m < r) : n ≤ min (n - 0) r ∨ n - min (n - 0) r ≤ r := (Nat.le_total n r).elim (fun c => .inl (Nat.le_min.mpr ⟨Nat.le_refl _, c⟩)) (fun c => by rw [Nat.min_eq_right (show r ≤ n - 0 from c)]; exact .inr h1)
theorem qg3 {n m r : Nat} (h1 : n - r ≤ r) (h2 : ¬ m < r) : n ≤ m ∨ n - m ≤ r := .inr (Nat.le_trans (Nat.sub_le_sub_left (Nat.le_of_not_lt h2) n) h1)
theorem qg4 {n r : Nat} : min (n - 0) r ≤ n := Nat.min_le_left n r
theorem qg7 {l n : Nat} (h1 : ¬ l ≥ n) : 1 ≤ n - l := qg5 h1
end Mine
end

/-! B1 -/
section
open PySem PySem.W PyProof.Rows
set_option Elab.async false
set_option maxRecDepth 100000
set_option maxHeartbeats 4000000
set_option linter.unusedVariables false
namespace Mine

abbrev View := Addr → Option Obj
abbrev Mu := List (Addr × Obj)
abbrev Nm := PySem.Str → Option Value
def Le (G G' : View) : Prop := ∀ a o, G a = some o → G' a = some o
theorem Le.refl (G : View) : Le G G := fun _ _ e => e
theorem Le.trans {G G' G'' : View} (x : Le G G') (y : Le G' G'') : Le G G'' := fun a o e => y a o (x a o e)
def ext (G : View) (a : Addr) (o : Obj) : View := fun c => if c = a then some o else G c
theorem ext_self (G : View) (a : Addr) (o : Obj) : ext G a o a = some o := if_pos rfl

structure Bs where
  T : Heap
  S : Shared
  G : View
  X : List Addr
abbrev Bs.H (b : Bs) : Heap := b.S.heap

/-- a frame's state: locals m, cells cm, known objects G (never changed), objects mu that may be changed; b: what was at the call's start -/
structure Fm (b : Bs) (env : Env) (m cm : Nm) (G : View) (mu : Mu) (h : Heap) : Prop where
  ns : h.Ns env.locals m
  cell : ∀ n c, (n, c) ∈ env.cells → h.IsCell c (cm n)
  nC : ∀ n c, (n, c) ∈ env.cells → G c = none ∧ c ≠ env.locals
  apart : env.cells.Pairwise fun x y => x.1 ≠ y.1 ∧ x.2 ≠ y.2
  top : ∀ a o, b.T.get? a = some o → G a = some o
  above : b.T.objs.size ≤ env.locals
  view : ∀ a o, G a = some o → h.get? a = some o
  nL : G env.locals = none
  mus : ∀ p ∈ mu, h.get? p.1 = some p.2 ∧ p.1 ≠ env.locals ∧ G p.1 = none ∧ ∀ n c, (n, c) ∈ env.cells → p.1 ≠ c
  mnd : (mu.map (·.1)).Nodup
  mfr : ∀ p ∈ mu, p.1 ∈ b.X ∨ b.H.get? p.1 = none
  xin : ∀ a ∈ b.X, a ∈ mu.map (·.1)
  keep : ∀ a o, b.H.get? a = some o → a ∉ b.X → h.get? a = some o
  gfr : ∀ a o, G a = some o → b.G a = some o ∨ b.H.get? a = none
  old : ∀ a o, b.H.get? a = some o → a ≠ env.locals ∧ (env.func.isSome = true → ∀ n c, (n, c) ∈ env.cells → a ≠ c)

structure Grow (h : Heap) (G : View) (mu : Mu) (h' : Heap) (G' : View) (mu' : Mu) : Prop where
  keep : ∀ a o, h.get? a = some o → a ∉ mu.map (·.1) → h'.get? a = some o
  view : ∀ a o, G' a = some o → h'.get? a = some o
  le : Le G G'
  fresh : ∀ a o, G' a = some o → G a = some o ∨ h.get? a = none
  addr : mu'.map (·.1) = mu.map (·.1)
  mus : ∀ p ∈ mu', h'.get? p.1 = some p.2

section
variable {b : Bs} {env : Env} {m m' cm : Nm} {G G' : View} {mu mu' mu₁ mu₂ : Mu} {h h' : Heap}

/-- all that was there stays; the view grows by new objects -/
theorem Fm.grow (F : Fm b env m cm G mu h) (hk : ∀ a o, h.get? a = some o → h'.get? a = some o) (le : Le G G') (hv : ∀ a o, G' a = some o → h'.get? a = some o)
    (hf : ∀ a o, G' a = some o → G a = some o ∨ h.get? a = none) : Fm b env m cm G' mu h' := by
  have hL : ∃ o, h.get? env.locals = some o := let ⟨o, _, _, e, _⟩ := F.ns; ⟨o, e⟩
  have no : ∀ a, G a = none → (∃ o, h.get? a = some o) → G' a = none := fun a e1 e2 => by
    cases q : G' a with
    | none => rfl
    | some o =>
      obtain ⟨o', e2⟩ := e2
      rcases hf a o q with q' | q'
      · rw [e1] at q'; cases q'
      · rw [e2] at q'; cases q'
  refine ⟨F.ns.keeps hk, fun n c e => (F.cell n c e).keeps hk, fun n c hc => ⟨no c (F.nC n c hc).1 (let ⟨o, e, _⟩ := F.cell n c hc; ⟨o, e⟩), (F.nC n c hc).2⟩, F.apart,
    fun a o e => le a o (F.top a o e), F.above, hv, no _ F.nL hL, fun p hp => ⟨hk _ _ (F.mus p hp).1, (F.mus p hp).2.1, no _ (F.mus p hp).2.2.1 ⟨_, (F.mus p hp).1⟩, (F.mus p hp).2.2.2⟩,
    F.mnd, F.mfr, F.xin, fun a o e n => hk a o (F.keep a o e n), fun a o e => ?_, F.old⟩
  rcases hf a o e with q | q
  · exact F.gfr a o q
  · right
    cases r : b.H.get? a with
    | none => rfl
    | some o' =>
      by_cases hx : a ∈ b.X
      · obtain ⟨p, hp, rfl⟩ := List.mem_map.mp (F.xin a hx)
        rw [(F.mus p hp).1] at q; cases q
      · rw [F.keep a o' r hx] at q; cases q

theorem Fm.up (F : Fm b env m cm G mu h) (hk : ∀ a o, h.get? a = some o → h'.get? a = some o) : Fm b env m cm G mu h' :=
  F.grow hk (Le.refl _) (fun a o e => hk a o (F.view a o e)) fun _ _ e => .inl e

theorem Fm.alloc (F : Fm b env m cm G mu h) (o : Obj) (hf : o.isFreed = false := by rfl) : Fm b env m cm (ext G h.objs.size o) mu (h.push o) ∧ Le G (ext G h.objs.size o) := by
  have hn : h.get? h.objs.size = none := Heap.get?_none_of_le (Nat.le_refl _)
  have le : Le G (ext G h.objs.size o) := fun a o' e => by
    unfold ext
    by_cases q : a = h.objs.size
    · subst q; have := F.view _ _ e; rw [hn] at this; cases this
    · rw [if_neg q]; exact e
  refine ⟨F.grow (fun a o' e => Heap.get?_push_of_some _ e) le (fun a o' e => ?_) fun a o' e => ?_, le⟩
  · unfold ext at e
    by_cases q : a = h.objs.size
    · subst q; rw [if_pos rfl] at e; cases e; exact Heap.get?_push_size _ hf
    · rw [if_neg q] at e; exact Heap.get?_push_of_some _ (F.view _ _ e)
  · unfold ext at e
    by_cases q : a = h.objs.size
    · subst q; exact .inr hn
    · rw [if_neg q] at e; exact .inl e

theorem Fm.allocMu (F : Fm b env m cm G mu h) (o : Obj) (hf : o.isFreed = false := by rfl) : Fm b env m cm G ((h.objs.size, o) :: mu) (h.push o) := by
  have hn : h.get? h.objs.size = none := Heap.get?_none_of_le (Nat.le_refl _)
  have F' := F.up (h' := h.push o) fun a o' e => Heap.get?_push_of_some _ e
  have hL : ∃ o, h.get? env.locals = some o := let ⟨o, _, _, e, _⟩ := F.ns; ⟨o, e⟩
  refine { F' with mus := fun p hp => ?_, mnd := ?_, mfr := fun p hp => ?_, xin := fun a ha => List.mem_cons_of_mem _ (F.xin a ha) }
  · rcases List.mem_cons.mp hp with rfl | hp
    · refine ⟨Heap.get?_push_size _ hf, fun q => ?_, ?_, fun n c hc q => ?_⟩
      · obtain ⟨o', e⟩ := hL; rw [← q, hn] at e; cases e
      · cases q : G h.objs.size with
        | none => rfl
        | some o' => have := F.view _ _ q; rw [hn] at this; cases this
      · obtain ⟨o', e, _⟩ := F.cell n c hc
        rw [← q, hn] at e; cases e
    · exact F'.mus p hp
  · refine List.nodup_cons.mpr ⟨fun hm => ?_, F.mnd⟩
    obtain ⟨p, hp, e⟩ := List.mem_map.mp hm
    have := (F.mus p hp).1
    rw [e, hn] at this; cases this
  · rcases List.mem_cons.mp hp with rfl | hp
    · right
      cases r : b.H.get? h.objs.size with
      | none => rfl
      | some o' =>
        by_cases hx : h.objs.size ∈ b.X
        · obtain ⟨p, hp, e⟩ := List.mem_map.mp (F.xin _ hx)
          have := (F.mus p hp).1
          rw [e, hn] at this; cases this
        · have := F.keep _ o' r hx; rw [hn] at this; cases this
    · exact F.mfr p hp

/-- a local is stored -/
theorem Fm.store (F : Fm b env m cm G mu h) (hn : h'.Ns env.locals m') (hs : Heap.SameBut env.locals h h') : Fm b env m' cm G mu h' :=
  ⟨hn, fun n c hc => (F.cell n c hc).sameBut hs (F.nC n c hc).2, F.nC, F.apart, F.top, F.above,
    fun a o e => (hs.2 a fun q => by rw [q, F.nL] at e; cases e).trans (F.view a o e), F.nL,
    fun p hp => ⟨(hs.2 _ (F.mus p hp).2.1).trans (F.mus p hp).1, (F.mus p hp).2⟩, F.mnd, F.mfr, F.xin,
    fun a o e n => (hs.2 a (F.old a o e).1).trans (F.keep a o e n), F.gfr, F.old⟩

theorem cell_inj {l : List (PySem.Str × Addr)} (h : l.Pairwise fun x y => x.1 ≠ y.1 ∧ x.2 ≠ y.2) {n n' : PySem.Str} {c : Addr} (h1 : (n, c) ∈ l) (h2 : (n', c) ∈ l) : n = n' :=
  name_of_addr (h.imp fun x => x.2) h1 h2
theorem cell_one : ∀ {l : List (PySem.Str × Addr)}, (l.Pairwise fun x y => x.1 ≠ y.1 ∧ x.2 ≠ y.2) → ∀ {n : PySem.Str} {c c' : Addr}, (n, c) ∈ l → (n, c') ∈ l → c = c'
  | x :: r, hp, n, c, c', h, h' => by
    obtain ⟨h1, h2⟩ := List.pairwise_cons.mp hp
    rcases List.mem_cons.mp h with e | h <;> rcases List.mem_cons.mp h' with e' | h'
    · rw [← e'] at e; exact (Prod.mk.inj e).2
    · exact absurd (by rw [← e]) (h1 _ h').1
    · exact absurd (by rw [← e']) (h1 _ h).1
    · exact cell_one h2 h h'

/-- a cell is stored -/
theorem Fm.storeC (F : Fm b env m cm G mu h) {n : PySem.Str} {c : Addr} {v : Value} (hf : env.func.isSome = true) (hc : (n, c) ∈ env.cells) (hv : h'.IsCell c (some v)) (hs : Heap.SameBut c h h') :
    Fm b env m (fun y => if y = n then some v else cm y) G mu h' := by
  refine ⟨F.ns.sameBut hs (Ne.symm (F.nC n c hc).2), fun n' c' hc' => ?_, F.nC, F.apart, F.top, F.above, fun a o e => (hs.2 a fun q => by rw [q, (F.nC n c hc).1] at e; cases e).trans (F.view a o e), F.nL,
    fun p hp => ⟨(hs.2 _ ((F.mus p hp).2.2.2 n c hc)).trans (F.mus p hp).1, (F.mus p hp).2⟩, F.mnd, F.mfr, F.xin, fun a o e nx => (hs.2 a ((F.old a o e).2 hf n c hc)).trans (F.keep a o e nx), F.gfr, F.old⟩
  by_cases q : n' = n
  · subst q
    have := cell_one F.apart hc' hc
    subst this; simpa using hv
  · rw [if_neg q]
    exact (F.cell n' c' hc').sameBut hs fun r => q (cell_inj F.apart hc' (r ▸ hc))

/-- a changeable object is changed -/
theorem Fm.mut {pre post : Mu} {a : Addr} {o o' : Obj} (F : Fm b env m cm G (pre ++ (a, o) :: post) h) (hs : Heap.SameBut a h h') (ho : h'.get? a = some o') : Fm b env m cm G (pre ++ (a, o') :: post) h' := by
  have A := F.mus (a, o) (by simp)
  have e1 : (pre ++ (a, o') :: post).map (·.1) = (pre ++ (a, o) :: post).map (·.1) := by simp
  have nd := F.mnd
  simp only [List.map_append, List.map_cons] at nd
  have hne : ∀ p, p ∈ pre ∨ p ∈ post → p.1 ≠ a := fun p hp q => by
    obtain ⟨n1, n2, n3⟩ := List.nodup_append.mp nd
    obtain ⟨n4, n5⟩ := List.nodup_cons.mp n2
    rcases hp with hp | hp
    · exact n3 p.1 (List.mem_map_of_mem hp) a (.head _) q
    · exact n4 (q ▸ List.mem_map_of_mem hp)
  refine ⟨F.ns.sameBut hs (Ne.symm A.2.1), fun n c hc => (F.cell n c hc).sameBut hs (Ne.symm (A.2.2.2 n c hc)), F.nC, F.apart, F.top, F.above, fun c o₁ e => (hs.2 c fun q => by rw [q, A.2.2.1] at e; cases e).trans (F.view c o₁ e), F.nL,
    fun p hp => ?_, e1 ▸ F.mnd, fun p hp => ?_, fun c hc => e1 ▸ F.xin c hc, fun c o₁ e n => (hs.2 c fun q => ?_).trans (F.keep c o₁ e n), F.gfr, F.old⟩
  · rcases List.mem_append.mp hp with hq | hq
    · have P := F.mus p (List.mem_append_left _ hq); exact ⟨(hs.2 _ (hne p (.inl hq))).trans P.1, P.2⟩
    · rcases List.mem_cons.mp hq with rfl | hq
      · exact ⟨ho, A.2⟩
      · have P := F.mus p (List.mem_append_right _ (.tail _ hq)); exact ⟨(hs.2 _ (hne p (.inr hq))).trans P.1, P.2⟩
  · rcases List.mem_append.mp hp with hq | hq
    · exact F.mfr p (List.mem_append_left _ hq)
    · rcases List.mem_cons.mp hq with rfl | hq
      · exact F.mfr (a, o) (by simp)
      · exact F.mfr p (List.mem_append_right _ (.tail _ hq))
  · rcases F.mfr (a, o) (by simp) with r | r
    · exact n (q ▸ r)
    · subst q; simp only at r; rw [r] at e; cases e

theorem Fm.perm (F : Fm b env m cm G mu h) (p : mu.Perm mu') : Fm b env m cm G mu' h :=
  { F with mus := fun x hx => F.mus x (p.mem_iff.mpr hx), mnd := (p.map _).nodup_iff.mp F.mnd, mfr := fun x hx => F.mfr x (p.mem_iff.mpr hx), xin := fun a ha => (p.map _).mem_iff.mp (F.xin a ha) }

theorem Fm.drop {p : Addr × Obj} (F : Fm b env m cm G (p :: mu) h) (hx : p.1 ∉ b.X) : Fm b env m cm G mu h :=
  { F with mus := fun x hx => F.mus x (.tail _ hx), mnd := (List.nodup_cons.mp F.mnd).2, mfr := fun x hx => F.mfr x (.tail _ hx), xin := fun a ha => ((List.mem_cons.mp (F.xin a ha)).resolve_left fun e => hx ((show a = p.1 from e) ▸ ha)) }

/-- a changeable object that is new since the call's start is changed no more -/
theorem Fm.freeze {a : Addr} {o : Obj} (F : Fm b env m cm G ((a, o) :: mu) h) (hx : b.H.get? a = none) (hx2 : a ∉ b.X) : Fm b env m cm (ext G a o) mu h ∧ Le G (ext G a o) := by
  have A := F.mus (a, o) (.head _)
  have D := F.drop hx2
  have nd := (List.nodup_cons.mp F.mnd).1
  have le : Le G (ext G a o) := fun c o' e => by
    unfold ext
    by_cases q : c = a
    · subst q; rw [A.2.2.1] at e; cases e
    · rw [if_neg q]; exact e
  have no : ∀ c, c ≠ a → ext G a o c = G c := fun c q => if_neg q
  refine ⟨{ D with nC := fun n c hc => ⟨(no c (Ne.symm (A.2.2.2 n c hc))).trans (F.nC n c hc).1, (F.nC n c hc).2⟩, top := fun c o' e => le c o' (F.top c o' e), view := fun c o' e => ?_, nL := (no _ (Ne.symm A.2.1)).trans F.nL, mus := fun p hp => ⟨(D.mus p hp).1, (D.mus p hp).2.1, (no _ fun q => nd (List.mem_map.mpr ⟨p, hp, q⟩)).trans (D.mus p hp).2.2.1, (D.mus p hp).2.2.2⟩, gfr := fun c o' e => ?_ }, le⟩
  · by_cases q : c = a
    · subst q; rw [ext_self] at e; cases e; exact A.1
    · rw [no c q] at e; exact F.view c o' e
  · by_cases q : c = a
    · subst q; exact .inr hx
    · rw [no c q] at e; exact F.gfr c o' e

/-- behind a call that may change mu₁ -/
theorem Fm.behind (F : Fm b env m cm G (mu₁ ++ mu) h) (g : Grow h G mu₁ h' G' mu₂) : Fm b env m cm G' (mu₂ ++ mu) h' := by
  have M1 : ∀ p ∈ mu₁, _ := fun p hp => F.mus p (List.mem_append_left _ hp)
  have nd := F.mnd
  rw [List.map_append] at nd
  obtain ⟨n1, n2, n3⟩ := List.nodup_append.mp nd
  have alive : ∀ a, (∃ o, h.get? a = some o) → G a = none → G' a = none := fun a ⟨o, e⟩ e0 => by
    cases q : G' a with
    | none => rfl
    | some o' =>
      rcases g.fresh a o' q with r | r
      · rw [e0] at r; cases r
      · rw [e] at r; cases r
  have notin : ∀ a, (∀ p ∈ mu₁, p.1 ≠ a) → a ∉ mu₁.map (·.1) := fun a k q => by
    obtain ⟨p, hp, e⟩ := List.mem_map.mp q; exact k p hp e
  obtain ⟨oL, es, ep, hL, r⟩ := id F.ns
  have hL' := g.keep _ _ hL (notin _ fun p hp => (M1 p hp).2.1)
  refine ⟨⟨oL, es, ep, hL', r⟩, fun n c hc => ?_, fun n c hc => ⟨alive c (let ⟨o, e, _⟩ := F.cell n c hc; ⟨o, e⟩) (F.nC n c hc).1, (F.nC n c hc).2⟩, F.apart, fun a o e => g.le a o (F.top a o e), F.above, g.view, alive _ ⟨oL, hL⟩ F.nL, fun p hp => ?_, ?_, fun p hp => ?_, fun a ha => ?_, fun a o e n => ?_, fun a o e => ?_, F.old⟩
  · obtain ⟨o, e, hd⟩ := F.cell n c hc
    exact ⟨o, g.keep c o e (notin _ fun p hp => (M1 p hp).2.2.2 n c hc), hd⟩
  · rcases List.mem_append.mp hp with hq | hq
    · have hm : p.1 ∈ mu₁.map (·.1) := g.addr ▸ List.mem_map_of_mem hq
      obtain ⟨p₀, hp₀, e⟩ := List.mem_map.mp hm
      have P := M1 p₀ hp₀
      rw [e] at P
      exact ⟨g.mus p hq, P.2.1, alive _ ⟨_, P.1⟩ P.2.2.1, P.2.2.2⟩
    · have P := F.mus p (List.mem_append_right _ hq)
      exact ⟨g.keep _ _ P.1 fun q => n3 _ q _ (List.mem_map_of_mem hq) rfl, P.2.1, alive _ ⟨_, P.1⟩ P.2.2.1, P.2.2.2⟩
  · rw [List.map_append, g.addr]; exact nd
  · have hm : p.1 ∈ (mu₁ ++ mu).map (·.1) := by
      rw [List.map_append, ← g.addr, ← List.map_append]; exact List.mem_map_of_mem hp
    obtain ⟨p₀, hp₀, e⟩ := List.mem_map.mp hm
    exact e ▸ F.mfr p₀ hp₀
  · have := F.xin a ha
    rwa [List.map_append, ← g.addr, ← List.map_append] at this
  · by_cases q : a ∈ mu₁.map (·.1)
    · exfalso
      obtain ⟨p, hp, e'⟩ := List.mem_map.mp q
      subst e'
      rcases F.mfr p (List.mem_append_left _ hp) with r' | r'
      · exact n r'
      · rw [r'] at e; cases e
    · exact g.keep a o (F.keep a o e n) q
  · rcases g.fresh a o e with q | q
    · exact F.gfr a o q
    · right
      cases r' : b.H.get? a with
      | none => rfl
      | some o' =>
        by_cases hx : a ∈ b.X
        · obtain ⟨p, hp, e'⟩ := List.mem_map.mp (F.xin a hx)
          have := (F.mus p hp).1
          rw [e', q] at this; cases this
        · have := F.keep a o' r' hx; rw [q] at this; cases this
theorem Fm.behind0 (F : Fm b env m cm G mu h) (g : Grow h G [] h' G' []) : Fm b env m cm G' mu h' := Fm.behind (mu₁ := []) (mu₂ := []) F g

/-- at a call's start -/
theorem Fm.enter {T : Heap} {s s₁ : Shared} {L : Addr} {cells : List (PySem.Str × Addr)} {env : Env} {m cm : Nm} {G : View} {mu : Mu} (x : InCallC s L m cells cm s₁) (hL : env.locals = L) (hcl : env.cells = cells)
    (hT : T.objs.size ≤ s.heap.objs.size) (top : ∀ a o, T.get? a = some o → G a = some o) (view : ∀ a o, G a = some o → s.heap.get? a = some o) (mus : ∀ p ∈ mu, s.heap.get? p.1 = some p.2 ∧ G p.1 = none) (mnd : (mu.map (·.1)).Nodup)
    (hn : (cells.map (·.1)).Nodup) : Fm ⟨T, s, G, mu.map (·.1)⟩ env m cm G mu s₁.heap := by
  subst hL; subst hcl
  have y := x.toInCall
  have old : ∀ a o, s.heap.get? a = some o → a ≠ env.locals ∧ ∀ n c, (n, c) ∈ env.cells → a ≠ c := fun a o e =>
    have : a < env.locals := Nat.lt_of_lt_of_le (Heap.lt_size e) y.fresh
    ⟨Nat.ne_of_lt this, fun n c hc => Nat.ne_of_lt (Nat.lt_trans this (x.above n c hc))⟩
  have no : ∀ a, env.locals ≤ a → G a = none := fun a ha => by
    cases q : G a with
    | none => rfl
    | some o => exact absurd (Nat.lt_of_lt_of_le (Heap.lt_size (view a o q)) (Nat.le_trans y.fresh ha)) (Nat.lt_irrefl _)
  refine ⟨y.ns, fun n c hc => x.cell n c (lookup_of_mem_nodup hn hc), fun n c hc => ⟨no c (Nat.le_of_lt (x.above n c hc)), Nat.ne_of_gt (x.above n c hc)⟩, ?_, top, Nat.le_trans hT y.fresh, fun a o e => y.keep a o (view a o e), no _ (Nat.le_refl _),
    fun p hp => ⟨y.keep _ _ (mus p hp).1, (old _ _ (mus p hp).1).1, (mus p hp).2, (old _ _ (mus p hp).1).2⟩, mnd, fun p hp => .inl (List.mem_map_of_mem hp), fun a ha => ha, fun a o e _ => y.keep a o e, fun a o e => .inl e, fun a o e => ⟨(old a o e).1, fun _ => (old a o e).2⟩⟩
  have h1 : env.cells.Pairwise fun x y => x.1 ≠ y.1 := by
    have := hn; unfold List.Nodup at this; rw [List.pairwise_map] at this; exact this
  exact h1.and x.apart

/-- at a call's end -/
theorem Fm.leave {T : Heap} {S : Shared} {G₀ : View} {mu₀ : Mu} (F : Fm ⟨T, S, G₀, mu₀.map (·.1)⟩ env m cm G (mu₁ ++ mu) h) (le : Le G₀ G) (e : mu₁.map (·.1) = mu₀.map (·.1)) : Grow S.heap G₀ mu₀ h G mu₁ :=
  ⟨fun a o e n => F.keep a o e n, F.view, le, F.gfr, e, fun p hp => (F.mus p (List.mem_append_left _ hp)).1⟩
end
section
variable {b : Bs} {env : Env} {m m' cm : Nm} {G G' : View} {mu mu' mu₁ mu₂ : Mu} {h h' : Heap}

/-- a step that may write the locals' dict too -/
theorem Fm.step (F : Fm b env m cm G mu h) (hn : h'.Ns env.locals m') (hk : ∀ a o, a ≠ env.locals → h.get? a = some o → h'.get? a = some o) (le : Le G G') (hv : ∀ a o, G' a = some o → h'.get? a = some o)
    (hf : ∀ a o, G' a = some o → G a = some o ∨ h.get? a = none) : Fm b env m' cm G' mu h' := by
  have hL : ∃ o, h.get? env.locals = some o := let ⟨o, _, _, e, _⟩ := F.ns; ⟨o, e⟩
  have no : ∀ a, G a = none → (∃ o, h.get? a = some o) → G' a = none := fun a e1 e2 => by
    cases q : G' a with
    | none => rfl
    | some o =>
      obtain ⟨o', e2⟩ := e2
      rcases hf a o q with q' | q'
      · rw [e1] at q'; cases q'
      · rw [e2] at q'; cases q'
  refine ⟨hn, fun n c e => ?_, fun n c hc => ⟨no c (F.nC n c hc).1 (let ⟨o, e, _⟩ := F.cell n c hc; ⟨o, e⟩), (F.nC n c hc).2⟩, F.apart,
    fun a o e => le a o (F.top a o e), F.above, hv, no _ F.nL hL, fun p hp => ⟨hk _ _ (F.mus p hp).2.1 (F.mus p hp).1, (F.mus p hp).2.1, no _ (F.mus p hp).2.2.1 ⟨_, (F.mus p hp).1⟩, (F.mus p hp).2.2.2⟩,
    F.mnd, F.mfr, F.xin, fun a o e n => hk a o (F.old a o e).1 (F.keep a o e n), fun a o e => ?_, F.old⟩
  · obtain ⟨o, ho, hd⟩ := F.cell n c e
    exact ⟨o, hk c o (F.nC n c e).2 ho, hd⟩
  rcases hf a o e with q | q
  · exact F.gfr a o q
  · right
    cases r : b.H.get? a with
    | none => rfl
    | some o' =>
      by_cases hx : a ∈ b.X
      · obtain ⟨p, hp, rfl⟩ := List.mem_map.mp (F.xin a hx)
        rw [(F.mus p hp).1] at q; cases q
      · rw [F.keep a o' r hx] at q; cases q

theorem Fm.mutN {pre post : Mu} {a : Addr} {o o' : Obj} (F : Fm b env m cm G (pre ++ (a, o) :: post) h) (hn : h'.Ns env.locals m) (hs : ∀ c x, c ≠ a → c ≠ env.locals → h.get? c = some x → h'.get? c = some x) (ho : h'.get? a = some o') :
    Fm b env m cm G (pre ++ (a, o') :: post) h' := by
  have A := F.mus (a, o) (by simp)
  have e1 : (pre ++ (a, o') :: post).map (·.1) = (pre ++ (a, o) :: post).map (·.1) := by simp
  have nd := F.mnd
  simp only [List.map_append, List.map_cons] at nd
  have hne : ∀ p, p ∈ pre ∨ p ∈ post → p.1 ≠ a := fun p hp q => by
    obtain ⟨n1, n2, n3⟩ := List.nodup_append.mp nd
    obtain ⟨n4, n5⟩ := List.nodup_cons.mp n2
    rcases hp with hp | hp
    · exact n3 p.1 (List.mem_map_of_mem hp) a (.head _) q
    · exact n4 (q ▸ List.mem_map_of_mem hp)
  refine ⟨hn, fun n c hc => ?_, F.nC, F.apart, F.top, F.above, fun c o₁ e => hs c _ (fun q => by rw [q, A.2.2.1] at e; cases e) (fun q => by rw [q, F.nL] at e; cases e) (F.view c o₁ e), F.nL,
    fun p hp => ?_, e1 ▸ F.mnd, fun p hp => ?_, fun c hc => e1 ▸ F.xin c hc, fun c o₁ e n => hs c _ (fun q => ?_) (F.old c o₁ e).1 (F.keep c o₁ e n), F.gfr, F.old⟩
  · obtain ⟨x, hx, hd⟩ := F.cell n c hc
    exact ⟨x, hs c x (Ne.symm (A.2.2.2 n c hc)) (F.nC n c hc).2 hx, hd⟩
  · rcases List.mem_append.mp hp with hq | hq
    · have P := F.mus p (List.mem_append_left _ hq); exact ⟨hs _ _ (hne p (.inl hq)) P.2.1 P.1, P.2⟩
    · rcases List.mem_cons.mp hq with rfl | hq
      · exact ⟨ho, A.2⟩
      · have P := F.mus p (List.mem_append_right _ (.tail _ hq)); exact ⟨hs _ _ (hne p (.inr hq)) P.2.1 P.1, P.2⟩
  · rcases List.mem_append.mp hp with hq | hq
    · exact F.mfr p (List.mem_append_left _ hq)
    · rcases List.mem_cons.mp hq with rfl | hq
      · exact F.mfr (a, o) (by simp)
      · exact F.mfr p (List.mem_append_right _ (.tail _ hq))
  · rcases F.mfr (a, o) (by simp) with r | r
    · exact n (q ▸ r)
    · subst q; simp only at r; rw [r] at e; cases e

/-- the library's frame and its ledger of all that lives -/
theorem Fm.fr (F : Fm b env m cm G mu h) : Fr b.T env.locals h m := ⟨F.ns, fun a o e => F.view a o (F.top a o e), F.above⟩
def allOf (T h : Heap) (L d : Addr) : List (Addr × Obj) := (List.range h.objs.size).filterMap fun a => if a = L ∨ a = d ∨ (T.get? a).isSome = true then none else (h.get? a).map fun o => (a, o)
theorem mem_allOf {T h : Heap} {L d : Addr} {p : Addr × Obj} : p ∈ allOf T h L d ↔ h.get? p.1 = some p.2 ∧ p.1 ≠ L ∧ p.1 ≠ d ∧ T.get? p.1 = none := by
  unfold allOf
  rw [List.mem_filterMap]
  constructor
  · rintro ⟨a, ha, e⟩
    split at e
    · cases e
    · rename_i hn
      obtain ⟨o, ho, rfl⟩ := Option.map_eq_some_iff.mp e
      refine ⟨ho, fun q => hn (.inl q), fun q => hn (.inr (.inl q)), ?_⟩
      cases q : T.get? a with
      | none => rfl
      | some _ => exact absurd (.inr (.inr (by rw [show T.get? a = some _ from q]; rfl))) hn
  · rintro ⟨h1, h2, h3, h4⟩
    refine ⟨p.1, List.mem_range.mpr (Heap.lt_size h1), ?_⟩
    rw [if_neg (by rintro (q | q | q); exact h2 q; exact h3 q; rw [h4] at q; cases q), h1]; rfl
theorem Fm.news (F : Fm b env m cm G mu h) (d : Addr) : News b.T env.locals h (allOf b.T h env.locals d) := fun p hp => by
  obtain ⟨h1, h2, _, h4⟩ := mem_allOf.mp hp
  exact ⟨h1, h2, h4⟩
theorem Fm.news1 (F : Fm b env m cm G mu h) {d : Addr} {o : Obj} (hd : h.get? d = some o) (hL : d ≠ env.locals) (hT : b.T.get? d = none) : News b.T env.locals h ((d, o) :: allOf b.T h env.locals d) := fun p hp => by
  rcases List.mem_cons.mp hp with rfl | hp
  · exact ⟨hd, hL, hT⟩
  · exact F.news d p hp
theorem kept_of {T h h' : Heap} {L d : Addr} {m m' : Nm} (F : Fr T L h m) (F' : Fr T L h' m') (N' : News T L h' (allOf T h L d)) : ∀ a o, a ≠ L → a ≠ d → h.get? a = some o → h'.get? a = some o := fun a o h1 h2 e => by
  cases q : T.get? a with
  | some o' =>
    have := F.keep a o' q
    rw [e] at this; cases this
    exact F'.keep a o q
  | none => exact (N' (a, o) (mem_allOf.mpr ⟨e, h1, h2, q⟩)).1
end
end Mine
end

/-! B2 -/
section
open PySem PySem.W PyProof.Rows
set_option Elab.async false
set_option maxRecDepth 100000
set_option maxHeartbeats 4000000
set_option linter.unusedVariables false
namespace Mine

structure Cx (K : Frag) (T : Heap) : Prop where
  X : K.In T
  lim : T.NoLimit
  glob : ∃ mg mb, T.Ns mainGlobals mg ∧ T.Ns builtinsNs mb ∧ ∀ x : PySem.Str, x ≠ "__name__" → mb x = bootBuiltins x

/-- room for n calls more -/
structure Ok (A : Around) (n : Nat) : Prop where
  handled : A.handled = none
  depth : A.depth + n < recursionLimit
  units : A.units + 20 * n + 100 < cLine
theorem Ok.mono {A : Around} {n k : Nat} (h : Ok A n) (hk : k ≤ n) : Ok A k := ⟨h.handled, by have := h.depth; omega, by have := h.units; omega⟩
theorem Ok.deeper {A : Around} {n : Nat} {env : Env} (h : Ok A (n + 1)) : Ok (A.deeper env) n := ⟨h.handled, by have := h.depth; show A.depth + 1 + n < _; omega, by have := h.units; show A.units + 3 + 20 * n + 100 < _; omega⟩
theorem Ok.room {A : Around} {n : Nat} (h : Ok A (n + 1)) : A.depth < recursionLimit := by have := h.depth; omega
theorem Ok.cu {A : Around} {n : Nat} (h : Ok A n) : A.units < cLine := by have := h.units; omega
theorem Ok.in1 {A : Around} {n : Nat} (h : Ok A (n + 1)) : Ok A.in1 n := ⟨h.handled, by have := h.depth; show A.depth + n < _; omega, by have := h.units; show A.units + 1 + 20 * n + 100 < _; omega⟩

def Rest (r s : Shared) : Prop := ∃ h tk, s = { r with heap := h, toks := tk }
theorem Rest.refl (s : Shared) : Rest s s := ⟨_, _, rfl⟩
theorem Rest.put {r s : Shared} (x : Rest r s) (h : Heap) (tk : Nat) : Rest r { s with heap := h, toks := tk } := by
  obtain ⟨h₁, t₁, rfl⟩ := x; exact ⟨h, tk, rfl⟩
theorem Rest.trans {r s s' : Shared} (x : Rest r s) (y : Rest s s') : Rest r s' := by
  obtain ⟨h₁, t₁, rfl⟩ := x
  obtain ⟨h₂, t₂, rfl⟩ := y
  exact ⟨h₂, t₂, rfl⟩

structure Fs (b : Bs) (env : Env) (m cm : Nm) (G : View) (mu : Mu) (s : Shared) : Prop where
  f : Fm b env m cm G mu s.heap
  r : Rest b.S s

/-- what a call does: mu may be changed, the view grows -/
def Calls (prog : Program) (w : World) (T : Heap) (A : Around) (f : Value) (args : List Value) (G : View) (mu : Mu) (P : View → Mu → Value → Prop) : Prop :=
  ∀ (s : Shared) (R : Result → Shared → Prop), T.objs.size ≤ s.heap.objs.size → (∀ a o, T.get? a = some o → G a = some o) → (∀ a o, G a = some o → s.heap.get? a = some o) →
    (∀ p ∈ mu, s.heap.get? p.1 = some p.2 ∧ G p.1 = none) → (mu.map (·.1)).Nodup →
    (∀ s' G' mu' v, Rest s s' → Grow s.heap G mu s'.heap G' mu' → P G' mu' v → R (.ok (.ret v)) s') → codeAny (model prog w) A (.call f ⟨args, []⟩) R s

section
variable {prog : Program} {w : World} {K : Frag} {b : Bs} {env : Env} {m m' cm : Nm} {G G' : View} {mu mu' mu₁ mu₂ : Mu} {A : Around} {s : Shared} {E : Value → Shared → Prop}

theorem Fs.put {h : Heap} {cm' : Nm} (F : Fs b env m cm G mu s) (f : Fm b env m' cm' G' mu' h) (tk : Nat) : Fs b env m' cm' G' mu' { s with heap := h, toks := tk } := ⟨f, F.r.put h tk⟩
theorem Fs.tok (F : Fs b env m cm G mu s) (tk : Nat) : Fs b env m cm G mu { s with toks := tk } := F.put F.f tk
theorem Fs.heap {h : Heap} {cm' : Nm} (F : Fs b env m cm G mu s) (f : Fm b env m' cm' G' mu' h) : Fs b env m' cm' G' mu' { s with heap := h } := ⟨f, F.r.put h s.toks⟩

theorem Calls.mono {T : Heap} {f : Value} {args : List Value} {P P' : View → Mu → Value → Prop} (C : Calls prog w T A f args G mu P) (h : ∀ G' mu' v, Le G G' → P G' mu' v → P' G' mu' v) : Calls prog w T A f args G mu P' :=
  fun s R h1 h2 h3 h4 h5 k => C s R h1 h2 h3 h4 h5 fun s' G' mu' v r g p => k s' G' mu' v r g (h _ _ _ g.le p)

theorem Fs.calls {f : Value} {args : List Value} {P : View → Mu → Value → Prop} {Q : Value → Shared → Prop} (C : Calls prog w b.T A f args G mu₁ P) (F : Fs b env m cm G (mu₁ ++ mu) s)
    (k : ∀ s' G' mu' v, Le G G' → Fs b env m cm G' (mu' ++ mu) s' → mu'.map (·.1) = mu₁.map (·.1) → P G' mu' v → Q v s') : wpAny (model prog w) A (PySem.call f args) Q E s := by
  refine wpAny_call (C s _ (Nat.le_trans F.f.above (Nat.le_of_lt F.f.ns.lt)) F.f.top F.f.view (fun p hp => ?_) ?_ fun s' G' mu' v r g hP => k s' G' mu' v g.le ⟨F.f.behind g, F.r.trans r⟩ g.addr hP)
  · have := F.f.mus p (List.mem_append_left _ hp)
    exact ⟨this.1, this.2.2.1⟩
  · have := F.f.mnd
    rw [List.map_append] at this
    exact (List.nodup_append.mp this).1

theorem Fs.calls0 {f : Value} {args : List Value} {P : View → Mu → Value → Prop} {Q : Value → Shared → Prop} (C : Calls prog w b.T A f args G [] P) (F : Fs b env m cm G mu s)
    (k : ∀ s' G' v, Le G G' → Fs b env m cm G' mu s' → P G' [] v → Q v s') : wpAny (model prog w) A (PySem.call f args) Q E s := by
  refine Fs.calls (mu₁ := []) C F fun s' G' mu' v le F' e hP => ?_
  have : mu' = [] := List.map_eq_nil_iff.mp e
  subst this
  exact k s' G' v le F' hP

theorem Calls.of_def0 {T : Heap} {G : View} {f : Addr} {name qual : PySem.Str} {params : Arguments} {body : List Stmt} {scope : Scope} {dV kV doc pm cdv ct oc : Value} {an od : Option Addr} {osl : Array (Option Value)} {vals : List Value} {binds : List (PySem.Str × Value)} {P : View → Mu → Value → Prop}
    {n : Nat} (C : Cx K T) (hA : Ok A (n + 1))
    (ho : K.lookup f = some ⟨oc, od, .func (fnOf name qual params body scope dV kV doc pm an cdv ct), osl⟩) (hcd : codeIn K cdv qual = true)
    (hbind : bindArgs (fnOf name qual params body scope dV kV doc pm an cdv ct) ⟨vals, []⟩ = pure binds)
    (hkind : ∀ n, ∀ x ∈ binds, scope.names.lookup x.1 = some .local ∨ (scope.names.lookup x.1 = some .cell ∧ ((cellsFrom n scope.names []).lookup x.1).isSome = true))
    (hnd : ((cellsFrom 0 scope.names []).map (·.1)).Nodup)
    (walk : ∀ (S : Shared) (L : Addr) (s : Shared) (A' : Around) (_ : Ok A' n) (Q : Value → Shared → Prop) (E : Value → Shared → Prop),
      Fs ⟨T, S, G, mu.map (·.1)⟩ (envX qual scope L f cdv (cellsFrom (L + 1) scope.names [])) (bindL (envX qual scope L f cdv (cellsFrom (L + 1) scope.names [])).kindOf binds fun _ => none) (bindC (envX qual scope L f cdv (cellsFrom (L + 1) scope.names [])).kindOf binds fun _ => none) G mu s →
      (∀ s' m' cm' G' mu' rest v, Fs ⟨T, S, G, mu.map (·.1)⟩ (envX qual scope L f cdv (cellsFrom (L + 1) scope.names [])) m' cm' G' (mu' ++ rest) s' → Le G G' → mu'.map (·.1) = mu.map (·.1) → P G' mu' v → Q v s') →
      wpAny (model prog w) A' (execs body (envX qual scope L f cdv (cellsFrom (L + 1) scope.names []))) (fun fl s' => Q (match fl with | .ret v => v | _ => .none) s') E s)
    (hco : scope.isCoroutine = false := by rfl) (hgen : scope.isGenerator = false := by rfl) (hk : scope.kind = .function := by rfl) : Calls prog w T A (.ref f) vals G mu P := by
  intro s R hT top view mus mnd k
  have keepT : ∀ a o, T.get? a = some o → s.heap.get? a = some o := fun a o e => view a o (top a o e)
  have X : K.In s.heap := fun a o e => keepT a o (C.X a o e)
  refine codeAny_call_cells (fd := fnOf name qual params body scope dV kV doc pm an cdv ct) hA.room (X _ _ ho) rfl (C.lim.keeps keepT) (codeRec_of X hcd) rfl hbind rfl (hkind _) (fun s₁ x => ?_) hco hgen hk
  have F := Fm.enter (T := T) (G := G) (mu := mu) (env := envX qual scope s.heap.objs.size f cdv (cellsFrom (s.heap.objs.size + 1) scope.names [])) x rfl rfl hT top view mus mnd (by
    have := cellsFrom_names scope.names 0 (s.heap.objs.size + 1) [] [] rfl
    exact this ▸ hnd)
  obtain ⟨h₁, tk₁, e₁, _⟩ := x.done
  exact wpAny_mono (walk s s.heap.objs.size s₁ _ hA.deeper (fun v s' => R (.ok (.ret v)) s') _ ⟨F, h₁, tk₁, e₁⟩ fun s' m' cm' G' mu' rest v F' le e hP => k s' G' mu' v F'.r (F'.f.leave le e) hP) (fun fl s' q => q) fun e s' q => q
/-- a body's env, told by its fixed parts and one address (small proofs) -/
def eY (qual : PySem.Str) (scope : Scope) (f : Addr) (cdv : Value) (L : Addr) : Env := envX qual scope L f cdv (cellsFrom (L + 1) scope.names [])
def mB (scope : Scope) (binds : List (PySem.Str × Value)) : Nm := bindL (fun x => scope.names.lookup x) binds fun _ => none
def cB (scope : Scope) (binds : List (PySem.Str × Value)) : Nm := bindC (fun x => scope.names.lookup x) binds fun _ => none
theorem Calls.of_def {T : Heap} {G : View} {f : Addr} {name qual : PySem.Str} {params : Arguments} {body : List Stmt} {scope : Scope} {dV kV doc pm cdv ct oc : Value} {an od : Option Addr} {osl : Array (Option Value)} {vals : List Value} {binds : List (PySem.Str × Value)} {P : View → Mu → Value → Prop}
    {n : Nat} (C : Cx K T) (hA : Ok A (n + 1))
    (ho : K.lookup f = some ⟨oc, od, .func (fnOf name qual params body scope dV kV doc pm an cdv ct), osl⟩) (hcd : codeIn K cdv qual = true)
    (hbind : bindArgs (fnOf name qual params body scope dV kV doc pm an cdv ct) ⟨vals, []⟩ = pure binds)
    (hkind : ∀ n, ∀ x ∈ binds, scope.names.lookup x.1 = some .local ∨ (scope.names.lookup x.1 = some .cell ∧ ((cellsFrom n scope.names []).lookup x.1).isSome = true))
    (hnd : ((cellsFrom 0 scope.names []).map (·.1)).Nodup)
    (walk : ∀ (S : Shared) (L : Addr) (s : Shared) (A' : Around) (_ : Ok A' n) (Q : Value → Shared → Prop) (E : Value → Shared → Prop),
      Fs ⟨T, S, G, mu.map (·.1)⟩ (eY qual scope f cdv L) (mB scope binds) (cB scope binds) G mu s →
      (∀ s' m' cm' G' mu' rest v, Fs ⟨T, S, G, mu.map (·.1)⟩ (eY qual scope f cdv L) m' cm' G' (mu' ++ rest) s' → Le G G' → mu'.map (·.1) = mu.map (·.1) → P G' mu' v → Q v s') →
      wpAny (model prog w) A' (execs body (eY qual scope f cdv L)) (fun fl s' => Q (match fl with | .ret v => v | _ => .none) s') E s)
    (hco : scope.isCoroutine = false := by rfl) (hgen : scope.isGenerator = false := by rfl) (hk : scope.kind = .function := by rfl) : Calls prog w T A (.ref f) vals G mu P :=
  Calls.of_def0 C hA ho hcd hbind hkind hnd (fun S L s A' hA' Q E F ret => walk S L s A' hA' Q E F ret) hco hgen hk

end
end Mine
end

/-! B3 -/
section
open PySem PySem.W PyProof.Rows
set_option Elab.async false
set_option maxRecDepth 100000
set_option maxHeartbeats 4000000
set_option linter.unusedVariables false
namespace Mine

def Nm.set (m : Nm) (x : PySem.Str) (v : Value) : Nm := fun y => if y = x then some v else m y
abbrev tupO (vs : List Value) : Obj := { cls := .type "tuple", data := .seq vs.toArray }
abbrev lstO (vs : List Value) : Obj := { cls := .type "list", data := .seq vs.toArray }

section
variable {M : Model} {K : Frag} {b : Bs} {env : Env} {m m' cm : Nm} {G G' : View} {mu mu' mu₁ mu₂ : Mu} {A : Around} {s : Shared} {E : Value → Shared → Prop}
  {x : PySem.Str} {pos : Pos} {v : Value} {c : Addr}

theorem nameL {Q : Value → Shared → Prop} (F : Fs b env m cm G mu s) (hv : m x = some v) (h : Q v s) (hk : env.scope.kind = .function := by rfl) (hl : env.kindOf x = some .local := by rfl)
    (hd : (x == ("__debug__" : PySem.Str)) = false := by decide) : wpAny M A (eval (.Name x pos) env) Q E s := wpAny_Name (wpAny_loadName_local hk hl F.f.ns hv h) hd
theorem nameC {Q : Value → Shared → Prop} (F : Fs b env m cm G mu s) (hv : cm x = some v) (h : Q v s) (hc : env.cells.lookup x = some c := by rfl) (hk : env.scope.kind = .function := by rfl) (hl : env.kindOf x = some .cell := by rfl)
    (hd : (x == ("__debug__" : PySem.Str)) = false := by decide) : wpAny M A (eval (.Name x pos) env) Q E s := wpAny_Name (wpAny_loadName_cell hk hl hc (hv ▸ F.f.cell x c (mem_of_lookup hc)) h) hd
theorem nameF {Q : Value → Shared → Prop} (F : Fs b env m cm G mu s) (hv : cm x = some v) (h : Q v s) (hc : env.cells.lookup x = some c := by rfl) (hk : env.scope.kind = .function := by rfl) (hl : env.kindOf x = some .free := by rfl)
    (hd : (x == ("__debug__" : PySem.Str)) = false := by decide) (hn : (x == ("__classdict__" : PySem.Str)) = false := by decide) : wpAny M A (eval (.Name x pos) env) Q E s := wpAny_Name (wpAny_loadName_free hk hl hc (hv ▸ F.f.cell x c (mem_of_lookup hc)) h hn) hd
theorem Fs.keepT (F : Fs b env m cm G mu s) : ∀ a o, b.T.get? a = some o → s.heap.get? a = some o := fun a o e => F.f.view a o (F.f.top a o e)
theorem nameK {Q : Value → Shared → Prop} (C : Cx K b.T) (F : Fs b env m cm G mu s) (e : nsIn K mainGlobals x = some (some v)) (h : Q v s) (hg : env.globals = mainGlobals := by rfl) (hk : env.scope.kind = .function := by rfl) (hx : env.kindOf x = some .globalImplicit := by rfl)
    (hd : (x == ("__debug__" : PySem.Str)) = false := by decide) : wpAny M A (eval (.Name x pos) env) Q E s := by
  obtain ⟨mg, mb, g, _, _⟩ := C.glob
  exact Calls.Name_function_global hk hx (Calls.loadGlobal_global (by rw [hg]; exact g.keeps F.keepT) (mg_of C.X g e) h) hd
theorem nameB {Q : Value → Shared → Prop} (C : Cx K b.T) (F : Fs b env m cm G mu s) (e : nsIn K mainGlobals x = some none) (hv : bootBuiltins x = some v) (hn : x ≠ "__name__") (h : Q v s) (hg : env.globals = mainGlobals := by rfl) (hb : env.builtins = builtinsNs := by rfl)
    (hk : env.scope.kind = .function := by rfl) (hx : env.kindOf x = some .globalImplicit := by rfl) (hd : (x == ("__debug__" : PySem.Str)) = false := by decide) : wpAny M A (eval (.Name x pos) env) Q E s := by
  obtain ⟨mg, mb, g, gb, bb⟩ := C.glob
  exact Calls.Name_function_global hk hx (Calls.loadGlobal_builtin (by rw [hg]; exact g.keeps F.keepT) (mg_none_of C.X g e) (by rw [hb]; exact gb.keeps F.keepT) ((bb x hn).trans hv) h) hd

theorem storeL {Q : Unit → Shared → Prop} (F : Fs b env m cm G mu s) (h : ∀ s', Fs b env (m.set x v) cm G mu s' → Q () s') (hl : env.kindOf x = some .local := by rfl)
    (hp : (env.scope.kind == .class || (env.scope.kind == .module && env.locals != env.globals)) = false := by rfl) : wpAny M A (storeName env x v) Q E s :=
  wpAny_storeName_local hl F.f.ns (fun h' hn hs => h _ (F.put (F.f.store hn hs) _)) hp
theorem storeC {Q : Unit → Shared → Prop} (F : Fs b env m cm G mu s) (h : ∀ s', Fs b env m (cm.set x v) G mu s' → Q () s') (hc : env.cells.lookup x = some c := by rfl) (hk : env.scope.kind = .function := by rfl)
    (hl : env.kindOf x = some .cell := by rfl) (hf : env.func.isSome = true := by rfl) : wpAny M A (storeName env x v) Q E s :=
  wpAny_storeName_cell hk hl hc (F.f.cell x c (mem_of_lookup hc)) fun h' hv hs => h _ (F.heap (F.f.storeC hf (mem_of_lookup hc) hv hs))

/-- the end of a display -/
def TupEnd (Q : Value → Shared → Prop) (vs : List Value) (s : Shared) : Prop := vs.length ≤ sizeLine ∧ Q (.ref s.heap.objs.size) { s with heap := s.heap.push { cls := .type "tuple", data := .seq vs.toArray } }
def LstEnd (Q : Value → Shared → Prop) (vs : List Value) (s : Shared) : Prop := vs.length ≤ sizeLine ∧ Q (.ref s.heap.objs.size) { s with heap := s.heap.push { cls := .type "list", data := .seq vs.toArray } }
theorem tupR {elts : List PySem.Expr} {k : Nat} {Q : Value → Shared → Prop} (h : wpAny M A (spliced (backTo pos (starEach elts env))) (fun vs s₁ => TupEnd Q vs s₁) E s) : wpAny M A (eval (.Tuple elts k pos) env) Q E s := wpAny_Tuple h
theorem lstR {elts : List PySem.Expr} {Q : Value → Shared → Prop} (h : wpAny M A (spliced (backTo pos (starEach elts env))) (fun vs s₁ => LstEnd Q vs s₁) E s) : wpAny M A (eval (.List elts pos) env) Q E s := wpAny_List h
theorem tup_end {Q : Value → Shared → Prop} {vs : List Value} (F : Fs b env m cm G mu s) (h : ∀ a s' G', Le G G' → G' a = some (tupO vs) → Fs b env m cm G' mu s' → Q (.ref a) s') (hl : vs.length ≤ 1000 := by simp) : TupEnd Q vs s := by
  obtain ⟨F', le⟩ := F.f.alloc (tupO vs)
  exact ⟨by rw [sizeLine_eq]; lia, h _ _ _ le (ext_self ..) (F.heap F')⟩
theorem lst_end {Q : Value → Shared → Prop} {vs : List Value} (F : Fs b env m cm G mu s) (h : ∀ a s' G', Le G G' → G' a = some (lstO vs) → Fs b env m cm G' mu s' → Q (.ref a) s') (hl : vs.length ≤ 1000 := by simp) : LstEnd Q vs s := by
  obtain ⟨F', le⟩ := F.f.alloc (lstO vs)
  exact ⟨by rw [sizeLine_eq]; lia, h _ _ _ le (ext_self ..) (F.heap F')⟩
theorem lst_endM {Q : Value → Shared → Prop} {vs : List Value} (F : Fs b env m cm G mu s) (h : ∀ a s', Fs b env m cm G ((a, PySem.W.listOf vs.toArray 0) :: mu) s' → Q (.ref a) s') (hl : vs.length ≤ 1000 := by simp) : LstEnd Q vs s :=
  ⟨by rw [sizeLine_eq]; lia, h _ _ (F.heap (F.f.allocMu (lstO vs)))⟩

end

def IsL (o : Obj) (vs : List Value) : Prop := o.cls = .type "list" ∧ ∃ n, o.data = .seq vs.toArray n
def LstAt (G : View) (a : Addr) (vs : List Value) : Prop := ∃ o, G a = some o ∧ IsL o vs
def TupAt (G : View) (a : Addr) (vs : List Value) : Prop := ∃ n, G a = some { cls := .type "tuple", data := .seq vs.toArray n }
theorem LstAt.mono {G G' : View} {a : Addr} {vs : List Value} (x : LstAt G a vs) (le : Le G G') : LstAt G' a vs := let ⟨o, e, r⟩ := x; ⟨o, le _ _ e, r⟩
theorem TupAt.mono {G G' : View} {a : Addr} {vs : List Value} (x : TupAt G a vs) (le : Le G G') : TupAt G' a vs := let ⟨n, e⟩ := x; ⟨n, le _ _ e⟩
theorem isL_lst (vs : List Value) : IsL (lstO vs) vs := ⟨rfl, _, rfl⟩

section
variable {prog : Program} {w : World} {K : Frag} {b : Bs} {env : Env} {m m' cm : Nm} {G G' : View} {mu mu' mu₁ mu₂ : Mu} {A : Around} {s : Shared} {E : Value → Shared → Prop}
theorem Fm.lstG {h : Heap} {a : Addr} {vs : List Value} (F : Fm b env m cm G mu h) (x : LstAt G a vs) : h.IsList a vs.toArray := let ⟨o, e, r⟩ := x; ⟨o, F.view _ _ e, r⟩
theorem Fm.lstM {h : Heap} {a : Addr} {o : Obj} {vs : List Value} (F : Fm b env m cm G mu h) (hm : (a, o) ∈ mu) (x : IsL o vs) : h.IsList a vs.toArray := ⟨o, (F.mus _ hm).1, x⟩
theorem Fm.tup {h : Heap} {a : Addr} {vs : List Value} (F : Fm b env m cm G mu h) (x : TupAt G a vs) : h.IsTuple a vs.toArray := let ⟨n, e⟩ := x; ⟨_, F.view _ _ e, rfl, n, rfl⟩

theorem draw_list {it t : Addr} {items : Array Value} (hne : t ≠ it) : ∀ (n i : Nat) (s : Shared) (Q : List Value → Shared → Prop), s.heap.IsListIter it t i → s.heap.IsList t items → i + n ≤ items.size →
    (∀ h', h'.IsListIter it t (i + n) → Heap.SameBut it s.heap h' → Q ((items.toList.drop i).take n) { s with heap := h' }) → wpAny (model prog w) A (draw (.ref it) n) Q E s
  | 0, i, s, Q, hit, _, _, hQ => by
    show wpAny _ _ (pure []) Q E s
    exact wpAny_pure (by simpa using hQ s.heap hit (Heap.SameBut.refl ..))
  | n + 1, i, s, Q, hit, ht, hle, hQ => by
    have hlt : i < items.size := by lia
    show wpAny _ _ (pyNext (.ref it) >>= _) Q E s
    refine wpAny_bind (wpAny_pyNext_list_item hit ht (x := items[i]) (by simp [hlt]) fun h₁ hit₁ hs₁ => ?_)
    refine wpAny_bind (wpAny_holding (draw_list hne n (i + 1) _ _ hit₁ (ht.extBut hs₁.extBut hne) (by lia) fun h₂ hit₂ hs₂ => wpAny_pure ?_))
    have hd : items.toList.drop i = items[i] :: items.toList.drop (i + 1) := by simp [List.drop_eq_getElem_cons, hlt]
    have := hQ h₂ (by rw [show i + (n + 1) = i + 1 + n by lia]; exact hit₂) (hs₁.trans hs₂)
    rw [hd, List.take_succ_cons] at this
    exact this

theorem unpackItems_list {t : Addr} {items : Array Value} {Q : List Value → Shared → Prop} (hh : A.handled = none) (ht : s.heap.IsList t items)
    (hQ : ∀ h', Heap.ExtBut s.heap.objs.size s.heap h' → Q items.toList { s with heap := h' }) : wpAny (model prog w) A (unpackItems (.ref t) items.size none) Q E s := by
  have hlt : t ≠ s.heap.objs.size := by obtain ⟨o, ho, _⟩ := ht; exact Nat.ne_of_lt (Heap.lt_size ho)
  unfold unpackItems
  refine wpAny_bind ?_
  · unfold notIterableAtAll
    refine wpAny_bind (wpAny_specialOf ht.typeIs slot_list_iter.lookup ?_)
    refine wpAny_pure ?_
    simp only [Bool.false_eq_true, if_false]
    refine wpAny_bind (wpAny_holding (wpAny_pyIter_list ht ?_))
    refine wpAny_bind (wpAny_holding (draw_list hlt items.size 0 _ _ ⟨_, Heap.get?_push_size _ rfl, rfl, rfl⟩ (ht.push _) (by lia) fun h₁ hit₁ hs₁ => ?_))
    have hall : List.take items.size (List.drop 0 items.toList) = items.toList := by
      rw [List.drop_zero]; exact List.take_of_length_le (by simp)
    rw [hall]
    rw [if_neg (by simp)]
    have ht₁ : h₁.IsList t items := (ht.push _).extBut hs₁.extBut hlt
    refine wpAny_bind (wpAny_holding (wpAny_pyNext_list_end hh hit₁ ht₁ (by simp) fun h₂ he₂ => ?_))
    simp only [Option.isSome_none, Bool.false_eq_true, if_false]
    refine wpAny_pure (hQ h₂ fun b o hb e => he₂ b o hb (hs₁.extBut b o hb (Heap.get?_push_of_some _ e)))

/-- unpacking a list -/
theorem unpackL {t : Addr} {vs : List Value} {elts : List Expr} {k : Nat} {pos : Pos} {Q : Unit → Shared → Prop} (hh : A.handled = none) (F : Fs b env m cm G mu s) (ht : s.heap.IsList t vs.toArray)
    (hn : (assignEach elts env).length = vs.length) (hstar : (assignEach elts env).findIdx? (·.1) = none)
    (h : ∀ s', Fs b env m cm G mu s' → wpAny (model prog w) A (assignInOrder ((assignEach elts env).map (·.2)) vs) Q E s') : wpAny (model prog w) A (assign (.Tuple elts k pos) env (.ref t)) Q E s := by
  rw [arm_assign_Tuple]
  refine wpAny_bind (wpAny_standAt ?_)
  unfold unpack
  rw [hn, hstar]
  refine wpAny_bind (wpAny_holding ?_)
  have := unpackItems_list (prog := prog) (w := w) (A := A) (E := E) (s := s) (t := t) (items := vs.toArray) (Q := fun x s' => wpAny (model prog w) A (assignInOrder ((assignEach elts env).map (·.2)) x) Q E s') hh ht fun h' hs => ?_
  · simpa using this
  · have F' : Fm b env m cm G mu h' := F.f.up fun a o e => hs a o (Nat.ne_of_lt (Heap.lt_size e)) e
    simpa using h _ (F.heap F')

/-- unpacking a known tuple or list -/
theorem unpackT {t : Addr} {vs : List Value} {elts : List Expr} {k : Nat} {pos : Pos} {Q : Unit → Shared → Prop} (hh : A.handled = none) (F : Fs b env m cm G mu s) (ht : TupAt G t vs)
    (hn : (assignEach elts env).length = vs.length) (hstar : (assignEach elts env).findIdx? (·.1) = none)
    (h : ∀ s', Fs b env m cm G mu s' → wpAny (model prog w) A (assignInOrder ((assignEach elts env).map (·.2)) vs) Q E s') : wpAny (model prog w) A (assign (.Tuple elts k pos) env (.ref t)) Q E s := by
  refine wpAny_assign_Tuple (items := vs.toArray) hh (F.f.tup ht) (by simpa using hn) hstar fun h' hs => ?_
  have F' : Fm b env m cm G mu h' := F.f.up fun a o e => hs a o (Nat.ne_of_lt (Heap.lt_size e)) e
  simpa using h _ (F.heap F')

theorem inOrder_nil {Q : Unit → Shared → Prop} (h : Q () s) : wpAny (model prog w) A (assignInOrder [] []) Q E s := wpAny_pure h
theorem inOrder_cons {t : Value → Sem Unit} {ts : List (Value → Sem Unit)} {v : Value} {vs : List Value} {Q : Unit → Shared → Prop} (h : wpAny (model prog w) A (t v) (fun _ s' => wpAny (model prog w) A (assignInOrder ts vs) Q E s') E s) :
    wpAny (model prog w) A (assignInOrder (t :: ts) (v :: vs)) Q E s := wpAny_bind (wpAny_holding h)
theorem asgName {x : PySem.Str} {pos : Pos} {v : Value} {Q : Unit → Shared → Prop} (h : wpAny (model prog w) A (storeName env x v) Q E s) : wpAny (model prog w) A (assign (.Name x pos) env v) Q E s := wpAny_assign_Name h

/-- an item of a list -/
theorem itemL {value slice : PySem.Expr} {l : Addr} {vs : List Value} {k : Int} {u : Tok} {v : Value} {Q : Value → Shared → Prop} (hl : s.heap.IsList l vs.toArray) (h0 : 0 ≤ k) (hhi : k < 2 ^ 63) (hx : vs[k.toNat]? = some v) (h : Q v s)
    (hs : subscripted slice false (.ref l) (.int k u) = operate [.ref l, .int k u] (getItem (.ref l) (.int k u)) := by with_unfolding_all rfl) :
    wpAny (model prog w) A (subscriptTail value slice (.ref l) (.int k u)) Q E s :=
  tail_any hl.typeIs slot_list_getitem.lookup (wpAny_getItem_list hl h0 hhi (by simpa using hx) h) hs
/-- an item of a tuple -/
theorem itemT {value slice : PySem.Expr} {l : Addr} {vs : List Value} {k : Int} {u : Tok} {v : Value} {Q : Value → Shared → Prop} (hl : s.heap.IsTuple l vs.toArray) (h0 : 0 ≤ k) (hhi : k < 2 ^ 63) (hx : vs[k.toNat]? = some v) (h : Q v s)
    (hs : subscripted slice false (.ref l) (.int k u) = operate [.ref l, .int k u] (getItem (.ref l) (.int k u)) := by with_unfolding_all rfl) :
    wpAny (model prog w) A (subscriptTail value slice (.ref l) (.int k u)) Q E s := by
  have hlt : k.toNat < vs.length := by
    rcases Nat.lt_or_ge k.toNat vs.length with q | q
    · exact q
    · rw [List.getElem?_eq_none q] at hx; cases hx
  refine item_tupleT hl (by lia) hhi (j := k.toNat) ?_ hx h hs
  unfold seqIndex?
  simp only [show ¬ k < 0 by lia, if_false]
  rw [if_pos (by simp; lia)]

/-- an item of a changeable list is stored -/
theorem setL {pre post : Mu} {l : Addr} {o : Obj} {vs : List Value} {k : Int} {u : Tok} {v : Value} {Q : Unit → Shared → Prop} (F : Fs b env m cm G (pre ++ (l, o) :: post) s) (ho : IsL o vs) (h0 : 0 ≤ k) (hhi : k < 2 ^ 63) (hn : k.toNat < vs.length)
    (h : ∀ s' o', IsL o' (vs.set k.toNat v) → Fs b env m cm G (pre ++ (l, o') :: post) s' → Q () s') : wpAny (model prog w) A (setItem (.ref l) (.int k u) v) Q E s := by
  have hl := F.f.lstM (List.mem_append_right _ (.head _)) ho
  refine wpAny_setItem_list hl h0 hhi (by simp; lia) fun h' hl' hs => ?_
  obtain ⟨o', ho', hc, n, hd⟩ := hl'
  have : (vs.toArray.setIfInBounds k.toNat v) = (vs.set k.toNat v).toArray := by simp
  exact h _ o' ⟨hc, n, by rw [hd, this]⟩ (F.heap (F.f.mut hs ho'))

theorem constI {i : Int} {k : Nat} {pos : Pos} {Q : Value → Shared → Prop} (F : Fs b env m cm G mu s) (h : ∀ t s', Fs b env m cm G mu s' → Q (.int i t) s') : wpAny (model prog w) A (eval (.Constant (.int i) k pos) env) Q E s :=
  wpAny_Constant_int (h _ _ (F.tok _))
theorem constS {x : PySem.Str} {k : Nat} {pos : Pos} {Q : Value → Shared → Prop} (F : Fs b env m cm G mu s) (h : ∀ t s', Fs b env m cm G mu s' → Q (.str x t) s') : wpAny (model prog w) A (eval (.Constant (.str x) k pos) env) Q E s :=
  wpAny_Constant_str (h _ _ (F.tok _))
theorem addI {x y : Int} {t u : Tok} {Q : Value → Shared → Prop} (F : Fs b env m cm G mu s) (h : ∀ t s', Fs b env m cm G mu s' → Q (.int (x + y) t) s') : wpAny (model prog w) A (binaryOp .Add (.int x t) (.int y u)) Q E s := add_int (h _ _ (F.tok _))
theorem subI {x y : Int} {t u : Tok} {Q : Value → Shared → Prop} (F : Fs b env m cm G mu s) (h : ∀ t s', Fs b env m cm G mu s' → Q (.int (x - y) t) s') : wpAny (model prog w) A (binaryOp .Sub (.int x t) (.int y u)) Q E s := sub_int (h _ _ (F.tok _))
theorem mulI {x y : Int} {t u : Tok} {Q : Value → Shared → Prop} (F : Fs b env m cm G mu s) (hm : IntMulOk x y) (h : ∀ t s', Fs b env m cm G mu s' → Q (.int (x * y) t) s') : wpAny (model prog w) A (binaryOp .Mult (.int x t) (.int y u)) Q E s := mul_int (h _ _ (F.tok _)) hm
theorem modI {x y : Int} {t u : Tok} {Q : Value → Shared → Prop} (hh : A.handled = none) (F : Fs b env m cm G mu s) (hy : 0 < y) (h : ∀ t s', Fs b env m cm G mu s' → Q (.int (x % y) t) s') : wpAny (model prog w) A (binaryOp .Mod (.int x t) (.int y u)) Q E s :=
  mod_int_or hh (fun e => absurd e (by lia)) fun _ => by
    rw [show x.fmod y = x % y from Int.fmod_eq_emod_of_nonneg x (by lia)]; exact h _ _ (F.tok _)

/-- len of a list -/
theorem lenL {l : Addr} {vs : List Value} {Q : Value → Shared → Prop} (F : Fs b env m cm G mu s) (hl : s.heap.IsList l vs.toArray) (hz : vs.length < 2 ^ 62) (h : ∀ t s', Fs b env m cm G mu s' → Q (.int vs.length t) s') :
    wpAny (model prog w) A (PySem.call (.builtin "len") [.ref l]) Q E s := by
  have e : ((vs.toArray.size : Nat) : Int) = (vs.length : Int) := by simp
  refine Calls.call_len_list hl (by rw [e]; lia) ?_
  rw [e]; exact h _ _ (F.tok _)
theorem mul37 (x : Int) : IntMulOk x 37 := by
  unfold IntMulOk
  rw [show decide (Builtin.Int.intBits 37 > shortFactorBits) = false by decide +kernel]
  simp

theorem mul3 (x : Int) : IntMulOk x 3 := by
  unfold IntMulOk
  rw [show decide (Builtin.Int.intBits 3 > shortFactorBits) = false by decide +kernel]
  simp
/-- two ways meet -/
theorem joinF {M : Model} {c : Bool} {t1 t2 : Sem Value} {Q : Value → Shared → Prop} (F : Fs b env m cm G mu s) (P : Value → Prop) (h1 : c = true → wpAny M A t1 (fun v s' => P v ∧ Fs b env m cm G mu s') E s)
    (h2 : c = false → wpAny M A t2 (fun v s' => P v ∧ Fs b env m cm G mu s') E s) (k : ∀ v s', P v → Fs b env m cm G mu s' → Q v s') : if c = true then wpAny M A t1 Q E s else wpAny M A t2 Q E s := by
  cases c with
  | true => exact wpAny_mono (h1 rfl) (fun v s' q => k v s' q.1 q.2) fun _ _ e => e
  | false => exact wpAny_mono (h2 rfl) (fun v s' q => k v s' q.1 q.2) fun _ _ e => e

theorem unpackIT {t : Addr} {vs : List Value} {n : Nat} {Q : List Value → Shared → Prop} (hh : A.handled = none) (F : Fs b env m cm G mu s) (ht : TupAt G t vs) (hn : n = vs.length) (h : ∀ s', Fs b env m cm G mu s' → Q vs s') :
    wpAny (model prog w) A (unpackItems (.ref t) n none) Q E s := by
  subst hn
  have := wpAny_unpackItems_tuple (prog := prog) (w := w) (A := A) (E := E) (s := s) (t := t) (items := vs.toArray) (Q := Q) hh (F.f.tup ht) fun h' hs => by
    have F' : Fm b env m cm G mu h' := F.f.up fun a o e => hs a o (Nat.ne_of_lt (Heap.lt_size e)) e
    simpa using h _ (F.heap F')
  simpa using this
end
end Mine
end

/-! B5 -/
section
open PySem PySem.W PyProof.Rows
set_option Elab.async false
set_option maxRecDepth 100000
set_option maxHeartbeats 4000000
set_option linter.unusedVariables false
namespace Mine
/-- what is to hold behind a statement, told by a name (small proofs) -/
def Nx (Q : Flow → Shared → Prop) (P : Shared → Prop) : Prop := ∀ s', P s' → Q .next s'
def Rt (Q Q' : Flow → Shared → Prop) : Prop := ∀ v s', Q' (.ret v) s' → Q (.ret v) s'
def Fo (Q : Flow → Shared → Prop) (R : Result → Shared → Prop) : Prop := ∀ f s', Q f s' → R (.ok f) s'
def Lp (Q : Flow → Shared → Prop) (X B : Shared → Prop) (Z : Value → Shared → Prop) : Prop := (∀ s, X s → Q .next s ∧ Q .cont s) ∧ (∀ s, B s → Q .brk s) ∧ ∀ v s, Z v s → Q (.ret v) s
section
variable {s : Shared} {Q Q' : Flow → Shared → Prop} {P X B : Shared → Prop} {Z : Value → Shared → Prop} {R : Result → Shared → Prop} {v : Value} {f : Flow}
theorem next_ (k : Nx Q P) (p : P s) : Q .next s := k s p
theorem rt_ (k : Rt Q Q') (p : Q' (.ret v) s) : Q (.ret v) s := k v s p
theorem fo_ (k : Fo Q R) (p : Q f s) : R (.ok f) s := k f s p
theorem lp_n (k : Lp Q X B Z) (p : X s) : Q .next s := (k.1 s p).1
theorem lp_c (k : Lp Q X B Z) (p : X s) : Q .cont s := (k.1 s p).2
theorem lp_b (k : Lp Q X B Z) (p : B s) : Q .brk s := k.2.1 s p
theorem lp_r (k : Lp Q X B Z) (p : Z v s) : Q (.ret v) s := k.2.2 v s p
end

section
variable {b : Bs} {env : Env} {m cm : Nm} {G : View} {mu : Mu} {h h' : Heap}
/-- an iterator that is new since the start is changed and forgotten -/
theorem Fm.upX {I : Addr} {oI : Obj} (F : Fm b env m cm G ((I, oI) :: mu) h) (hX : I ∉ b.X) (hk : ∀ a o, a ≠ I → h.get? a = some o → h'.get? a = some o) : Fm b env m cm G mu h' := by
  have A := F.mus (I, oI) (.head _)
  have nd := (List.nodup_cons.mp F.mnd).1
  have D := F.drop hX
  refine ⟨?_, fun n c hc => ?_, D.nC, D.apart, D.top, D.above, fun a o e => hk a o (fun q => by rw [q, A.2.2.1] at e; cases e) (D.view a o e), D.nL,
    fun p hp => ⟨hk _ _ (fun q => nd (List.mem_map.mpr ⟨p, hp, q⟩)) (D.mus p hp).1, (D.mus p hp).2⟩, D.mnd, D.mfr, D.xin, fun a o e n => hk a o (fun q => ?_) (D.keep a o e n), D.gfr, D.old⟩
  · obtain ⟨o, es, ep, e, r⟩ := F.ns
    exact ⟨o, es, ep, hk _ _ (Ne.symm A.2.1) e, r⟩
  · obtain ⟨o, e, r⟩ := F.cell n c hc
    exact ⟨o, hk _ _ (Ne.symm (A.2.2.2 n c hc)) e, r⟩
  · subst q
    rcases F.mfr (a, oI) (.head _) with r | r
    · exact hX r
    · simp only at r; rw [r] at e; cases e
theorem Fm.notX (F : Fm b env m cm G mu h) : h.objs.size ∉ b.X := fun hx => by
  obtain ⟨p, hp, e⟩ := List.mem_map.mp (F.xin _ hx)
  have := Heap.lt_size (F.mus p hp).1
  rw [e] at this; exact Nat.lt_irrefl _ this
end

section
variable {prog : Program} {w : World} {K : Frag} {b : Bs} {env : Env} {m m' cm : Nm} {G G' : View} {mu mu' : Mu} {A : Around} {s : Shared} {E : Value → Shared → Prop} {R : Result → Shared → Prop}

theorem Fs.perm (F : Fs b env m cm G mu s) (p : mu.Perm mu') : Fs b env m cm G mu' s := ⟨F.f.perm p, F.r⟩
/-- a for loop over anything that walks -/
theorem loopW {target : PySem.Expr} {body : List Stmt} {I : Addr} {oI : Obj} {fp : List Addr} {n : Nat} {P : Nat → Value → Prop} {St : Nat → Heap → Prop} (W : Walks prog w A I (I :: fp) [I] n P St) (hfp : ∀ c ∈ fp, ∃ o, G c = some o)
    (hal : ∀ i h, St i h → ∃ o, h.get? I = some o) (hgo : ∀ i v (s : Shared) (Q : Unit → Shared → Prop) E, St (i + 1) s.heap → P i v → Q () s → wpAny (model prog w) A (letOwnedTupleGo target (.ref I) v) Q E s)
    (F : Fs b env m cm G ((I, oI) :: mu) s) (hX : I ∉ b.X) (hst : St 0 s.heap) (J : Nat → Nm → Nm → View → Mu → Prop) (hJ : J 0 m cm G mu)
    (turn : ∀ i v m₁ cm₁ G₁ mu₁ oI s₁ E₁, i < n → P i v → Le G G₁ → J i m₁ cm₁ G₁ mu₁ → Fs b env m₁ cm₁ G₁ (mu₁ ++ [(I, oI)]) s₁ →
      wpAny (model prog w) A (assign target env v) (fun _ s₂ => wpAny (model prog w) A (execs body env) (fun f s₃ => match f with
        | .next | .cont => E4 fun m₂ cm₂ G₂ mu₂ => A3 (Le G₁ G₂) (Fs b env m₂ cm₂ G₂ (mu₂ ++ [(I, oI)]) s₃) (J (i + 1) m₂ cm₂ G₂ mu₂)
        | .brk => R (.ok .next) s₃
        | .ret v => R (.ok (.ret v)) s₃) E₁ s₂) E₁ s₁)
    (done : ∀ m₁ cm₁ G₁ mu₁ s₁, Le G G₁ → J n m₁ cm₁ G₁ mu₁ → Fs b env m₁ cm₁ G₁ mu₁ s₁ → R (.ok .next) s₁) : codeAny (model prog w) A (.forLoop target (.ref I) body [] env) R s := by
  refine codeAny_forLoop_any (fun k s' => E6 fun i m₁ cm₁ G₁ mu₁ oI => A6 (Le G G₁) (Fs b env m₁ cm₁ G₁ ((I, oI) :: mu₁) s') (St i s'.heap) (J i m₁ cm₁ G₁ mu₁) (i ≤ n) (k = n + 1 - i)) ?_ (n + 1) ⟨0, m, cm, G, mu, oI, Le.refl _, F, hst, hJ, Nat.zero_le _, rfl⟩
  rintro k s' ⟨i, m₁, cm₁, G₁, mu₁, oI, le₁, F₁, st₁, J₁, hi, rfl⟩
  by_cases hlt : i < n
  · refine W.item i _ _ _ hlt st₁ fun v h₂ tk₂ hP st₂ hk₂ => ?_
    obtain ⟨oI', ho'⟩ := hal _ _ st₂
    have hk₂' : ∀ a o, a ≠ I → s'.heap.get? a = some o → h₂.get? a = some o := fun a o q e => hk₂ a o (by simpa using q) e
    have M := F₁.f.mus (I, oI) (.head _)
    have F₂ : Fs b env m₁ cm₁ G₁ ((I, oI') :: mu₁) { s' with heap := h₂, toks := tk₂ } := F₁.put (Fm.mutN (pre := []) F₁.f (by
      obtain ⟨o, es, ep, e, r⟩ := F₁.f.ns
      exact ⟨o, es, ep, hk₂' _ _ (Ne.symm M.2.1) e, r⟩) (fun c x q _ e => hk₂' c x q e) ho') tk₂
    refine hgo i v _ _ _ st₂ hP ?_
    refine wpAny_mono (turn i v m₁ cm₁ G₁ mu₁ oI' _ _ hlt hP le₁ J₁ (F₂.perm (List.perm_append_singleton _ _).symm)) (fun _ s₃ h₃ => wpAny_mono h₃ (fun f s₄ h₄ => ?_) fun _ _ e => e) fun _ _ e => e
    have fin : (E4 fun m₂ cm₂ G₂ mu₂ => A3 (Le G₁ G₂) (Fs b env m₂ cm₂ G₂ (mu₂ ++ [(I, oI')]) s₄) (J (i + 1) m₂ cm₂ G₂ mu₂)) →
        ∃ k', k' < n + 1 - i ∧ E6 fun i m₁ cm₁ G₁ mu₁ oI => A6 (Le G G₁) (Fs b env m₁ cm₁ G₁ ((I, oI) :: mu₁) s₄) (St i s₄.heap) (J i m₁ cm₁ G₁ mu₁) (i ≤ n) (k' = n + 1 - i) := by
      rintro ⟨m₂, cm₂, G₂, mu₂, le₂, F₄, J₄⟩
      replace F₄ := F₄.perm (List.perm_append_singleton _ _)
      refine ⟨n + 1 - (i + 1), by omega, i + 1, m₂, cm₂, G₂, mu₂, oI', le₁.trans le₂, F₄, W.frame _ _ _ st₂ fun c hc o e => ?_, J₄, hlt, rfl⟩
      rcases List.mem_cons.mp hc with rfl | hc
      · rw [ho'] at e; cases e
        exact (F₄.f.mus (c, oI') (.head _)).1
      · obtain ⟨oc, ec⟩ := hfp c hc
        have e1 := F₂.f.view _ _ (le₁ _ _ ec)
        rw [show ({ s' with heap := h₂, toks := tk₂ } : Shared).heap = h₂ from rfl] at e1
        rw [e] at e1; cases e1
        exact F₄.f.view _ _ (le₂ _ _ (le₁ _ _ ec))
    cases f with
    | next => exact fin h₄
    | cont => exact fin h₄
    | brk => exact h₄
    | ret v => exact h₄
  · have hin : i = n := by omega
    subst hin
    refine W.done _ _ _ st₁ fun h₂ tk₂ hk₂ => wpAny_execs_nil (done m₁ cm₁ G₁ mu₁ _ le₁ J₁ (F₁.put (F₁.f.upX hX fun a o q e => hk₂ a o (by simpa using q) e) tk₂))

theorem goName {x : PySem.Str} {px : Pos} {it v : Value} {Q : Unit → Shared → Prop} (h : Q () s) : wpAny (model prog w) A (letOwnedTupleGo (.Name x px) it v) Q E s := wpAny_pure h

/-- over a known list -/
theorem loopL0 {target : PySem.Expr} {body : List Stmt} {l : Addr} {vs : List Value} (hh : A.handled = none) (F : Fs b env m cm G mu s) (hl : LstAt G l vs)
    (hgo : ∀ i I v (s : Shared) (Q : Unit → Shared → Prop) E, s.heap.IsListIter I l (i + 1) → vs[i]? = some v → Q () s → wpAny (model prog w) A (letOwnedTupleGo target (.ref I) v) Q E s)
    (J : Nat → Nm → Nm → View → Mu → Prop) (hJ : J 0 m cm G mu)
    (turn : ∀ i v m₁ cm₁ G₁ mu₁ p s₁ E₁, vs[i]? = some v → Le G G₁ → J i m₁ cm₁ G₁ mu₁ → Fs b env m₁ cm₁ G₁ (mu₁ ++ [p]) s₁ →
      wpAny (model prog w) A (assign target env v) (fun _ s₂ => wpAny (model prog w) A (execs body env) (fun f s₃ => match f with
        | .next | .cont => E4 fun m₂ cm₂ G₂ mu₂ => A3 (Le G₁ G₂) (Fs b env m₂ cm₂ G₂ (mu₂ ++ [p]) s₃) (J (i + 1) m₂ cm₂ G₂ mu₂)
        | .brk => R (.ok .next) s₃
        | .ret v => R (.ok (.ret v)) s₃) E₁ s₂) E₁ s₁)
    (done : ∀ m₁ cm₁ G₁ mu₁ s₁, Le G G₁ → J vs.length m₁ cm₁ G₁ mu₁ → Fs b env m₁ cm₁ G₁ mu₁ s₁ → R (.ok .next) s₁) :
    wpAny (model prog w) A (pyIter (.ref l)) (fun it s₂ => codeAny (model prog w) A (.forLoop target it body [] env) R s₂) E s := by
  obtain ⟨ol, hol, hc, nl, hd⟩ := id hl
  have hlt : l < s.heap.objs.size := Heap.lt_size (F.f.view _ _ hol)
  refine wpAny_pyIter_list (F.f.lstG hl) ?_
  have F' := F.heap (F.f.allocMu { cls := .type "list_iterator", data := .fields #[.ref l, .int 0 0] })
  refine loopW (Walks.list hh s.heap.objs.size l (Nat.ne_of_lt hlt) vs.toArray) (fun c hc => ⟨ol, by rw [List.mem_singleton.mp hc]; exact hol⟩) (fun i h st => let ⟨o, e, _⟩ := st.1; ⟨o, e⟩)
    (fun i v s Q E st hP q => hgo i _ v s Q E st.1 (by simpa using hP) q) F' F.f.notX ⟨⟨_, Heap.get?_push_size _ rfl, rfl, rfl⟩, (F.f.lstG hl).push _⟩ J hJ (fun i v m₁ cm₁ G₁ mu₁ oI s₁ E₁ hi hP => ?_) ?_
  · exact turn i v m₁ cm₁ G₁ mu₁ _ s₁ E₁ (by simpa using hP)
  · simpa using done
theorem loopL {target : PySem.Expr} {body : List Stmt} {l : Addr} {vs : List Value} (hh : A.handled = none) (F : Fs b env m cm G mu s) (hl : LstAt G l vs)
    (hgo : ∀ i I v (s : Shared) (Q : Unit → Shared → Prop) E, s.heap.IsListIter I l (i + 1) → vs[i]? = some v → Q () s → wpAny (model prog w) A (letOwnedTupleGo target (.ref I) v) Q E s)
    (J : Nat → Nm → Nm → View → Mu → Prop) (hJ : J 0 m cm G mu)
    (turn : ∀ i v m₁ cm₁ G₁ mu₁ p s₁ E₁, vs[i]? = some v → Le G G₁ → J i m₁ cm₁ G₁ mu₁ → Fs b env m₁ cm₁ G₁ (mu₁ ++ [p]) s₁ → ∀ QQ : Flow → Shared → Prop, Lp QQ (fun s₃ => E4 fun m₂ cm₂ G₂ mu₂ => A3 (Le G₁ G₂) (Fs b env m₂ cm₂ G₂ (mu₂ ++ [p]) s₃) (J (i + 1) m₂ cm₂ G₂ mu₂)) (fun s₃ => R (.ok .next) s₃) (fun v s₃ => R (.ok (.ret v)) s₃) →
      wpAny (model prog w) A (assign target env v) (fun _ s₂ => wpAny (model prog w) A (execs body env) QQ E₁ s₂) E₁ s₁)
    (done : ∀ m₁ cm₁ G₁ mu₁ s₁, Le G G₁ → J vs.length m₁ cm₁ G₁ mu₁ → Fs b env m₁ cm₁ G₁ mu₁ s₁ → R (.ok .next) s₁) :
    wpAny (model prog w) A (pyIter (.ref l)) (fun it s₂ => codeAny (model prog w) A (.forLoop target it body [] env) R s₂) E s :=
  loopL0 hh F hl hgo J hJ (fun i v m₁ cm₁ G₁ mu₁ p s₁ E₁ a b c d => turn i v m₁ cm₁ G₁ mu₁ p s₁ E₁ a b c d _ ⟨fun s x => ⟨x, x⟩, fun s x => x, fun v s x => x⟩) done

def IsRg (G : View) (a : Addr) (lo hi : Int) : Prop := ∃ t u v, G a = some { cls := .type "range", data := .fields #[.int lo t, .int hi u, .int 1 v] }
theorem rng1 {n : Int} {t : Tok} {Q : Value → Shared → Prop} (F : Fs b env m cm G mu s) (h : ∀ a s' G', Le G G' → IsRg G' a 0 n → Fs b env m cm G' mu s' → Q (.ref a) s') : wpAny (model prog w) A (PySem.call (.type "range") [.int n t]) Q E s := by
  refine call_range_1 ?_
  obtain ⟨F', le⟩ := F.f.alloc { cls := .type "range", data := .fields #[.int 0 s.toks, .int n t, .int 1 (s.toks + 1)] }
  exact h _ _ _ le ⟨_, _, _, ext_self ..⟩ (F.put F' _)
theorem rng2 {lo hi : Int} {t u : Tok} {Q : Value → Shared → Prop} (F : Fs b env m cm G mu s) (h : ∀ a s' G', Le G G' → IsRg G' a lo hi → Fs b env m cm G' mu s' → Q (.ref a) s') : wpAny (model prog w) A (PySem.call (.type "range") [.int lo t, .int hi u]) Q E s := by
  refine call_range_2 ?_
  obtain ⟨F', le⟩ := F.f.alloc { cls := .type "range", data := .fields #[.int lo t, .int hi u, .int 1 s.toks] }
  exact h _ _ _ le ⟨_, _, _, ext_self ..⟩ (F.put F' _)

/-- over a range -/
theorem loopR0 {x : PySem.Str} {px : Pos} {body : List Stmt} {r : Addr} {lo hi : Int} (hh : A.handled = none) (F : Fs b env m cm G mu s) (hr : IsRg G r lo hi) (h1 : -(2 ^ 62) ≤ lo) (h2 : lo < 2 ^ 62) (h3 : -(2 ^ 62) ≤ hi) (h4 : hi < 2 ^ 62)
    (J : Nat → Nm → Nm → View → Mu → Prop) (hJ : J 0 m cm G mu)
    (turn : ∀ (i : Nat) t m₁ cm₁ G₁ mu₁ p s₁ E₁, lo + (i : Int) < hi → Le G G₁ → J i m₁ cm₁ G₁ mu₁ → Fs b env (m₁.set x (.int (lo + i) t)) cm₁ G₁ (mu₁ ++ [p]) s₁ →
      wpAny (model prog w) A (execs body env) (fun f s₃ => match f with
        | .next | .cont => E4 fun m₂ cm₂ G₂ mu₂ => A3 (Le G₁ G₂) (Fs b env m₂ cm₂ G₂ (mu₂ ++ [p]) s₃) (J (i + 1) m₂ cm₂ G₂ mu₂)
        | .brk => R (.ok .next) s₃
        | .ret v => R (.ok (.ret v)) s₃) E₁ s₁)
    (done : ∀ m₁ cm₁ G₁ mu₁ s₁, Le G G₁ → J (hi - lo).toNat m₁ cm₁ G₁ mu₁ → Fs b env m₁ cm₁ G₁ mu₁ s₁ → R (.ok .next) s₁)
    (hl : env.kindOf x = some .local := by rfl) (hp : (env.scope.kind == .class || (env.scope.kind == .module && env.locals != env.globals)) = false := by rfl) :
    wpAny (model prog w) A (pyIter (.ref r)) (fun it s₂ => codeAny (model prog w) A (.forLoop (.Name x px) it body [] env) R s₂) E s := by
  obtain ⟨t, u, v, hr⟩ := hr
  have hz : (Builtin.Range.rangeSize lo hi 1).toNat = (hi - lo).toNat := by rw [rangeSize_one]; split <;> omega
  have hz' : Builtin.Range.rangeSize lo hi 1 = ((hi - lo).toNat : Nat) := by rw [rangeSize_one]; split <;> omega
  refine wpAny_pyIter_range (F.f.view _ _ hr) (small_one h1 h2 h3 h4) ?_
  rw [hz']
  have F' := F.heap (F.f.allocMu { cls := .type "range_iterator", data := .fields #[rawInt lo, rawInt ((hi - lo).toNat : Nat), rawInt 1] })
  refine loopW (fp := []) (Walks.range hh s.heap.objs.size lo 1 (hi - lo).toNat) (fun c hc => nomatch hc) (fun i h st => ⟨_, st⟩) (fun i v s Q E _ _ q => goName q) F' F.f.notX (by
    show IsRangeIter _ _ _ _ _
    simpa using Heap.get?_push_size _ rfl) J hJ (fun i v m₁ cm₁ G₁ mu₁ oI s₁ E₁ hi' hP le₁ J₁ F₁ => ?_) done
  obtain ⟨t', rfl⟩ := hP
  rw [Int.mul_one]
  exact asgName (storeL F₁ (fun s₂ F₂ => turn i t' m₁ cm₁ G₁ mu₁ _ s₂ E₁ (by omega) le₁ J₁ F₂) hl hp)
theorem loopR {x : PySem.Str} {px : Pos} {body : List Stmt} {r : Addr} {lo hi : Int} (hh : A.handled = none) (F : Fs b env m cm G mu s) (hr : IsRg G r lo hi) (h1 : -(2 ^ 62) ≤ lo) (h2 : lo < 2 ^ 62) (h3 : -(2 ^ 62) ≤ hi) (h4 : hi < 2 ^ 62)
    (J : Nat → Nm → Nm → View → Mu → Prop) (hJ : J 0 m cm G mu)
    (turn : ∀ (i : Nat) t m₁ cm₁ G₁ mu₁ p s₁ E₁, lo + (i : Int) < hi → Le G G₁ → J i m₁ cm₁ G₁ mu₁ → Fs b env (m₁.set x (.int (lo + i) t)) cm₁ G₁ (mu₁ ++ [p]) s₁ → ∀ QQ : Flow → Shared → Prop, Lp QQ (fun s₃ => E4 fun m₂ cm₂ G₂ mu₂ => A3 (Le G₁ G₂) (Fs b env m₂ cm₂ G₂ (mu₂ ++ [p]) s₃) (J (i + 1) m₂ cm₂ G₂ mu₂)) (fun s₃ => R (.ok .next) s₃) (fun v s₃ => R (.ok (.ret v)) s₃) →
      wpAny (model prog w) A (execs body env) QQ E₁ s₁)
    (done : ∀ m₁ cm₁ G₁ mu₁ s₁, Le G G₁ → J (hi - lo).toNat m₁ cm₁ G₁ mu₁ → Fs b env m₁ cm₁ G₁ mu₁ s₁ → R (.ok .next) s₁)
    (hl : env.kindOf x = some .local := by rfl) (hp : (env.scope.kind == .class || (env.scope.kind == .module && env.locals != env.globals)) = false := by rfl) :
    wpAny (model prog w) A (pyIter (.ref r)) (fun it s₂ => codeAny (model prog w) A (.forLoop (.Name x px) it body [] env) R s₂) E s :=
  loopR0 hh F hr h1 h2 h3 h4 J hJ (fun i t m₁ cm₁ G₁ mu₁ p s₁ E₁ a b c d => turn i t m₁ cm₁ G₁ mu₁ p s₁ E₁ a b c d _ ⟨fun s x => ⟨x, x⟩, fun s x => x, fun v s x => x⟩) done hl hp
end
end Mine
end

/-! B6 -/
section
open PySem PySem.W PyProof.Rows
set_option Elab.async false
set_option maxRecDepth 100000
set_option maxHeartbeats 4000000
set_option linter.unusedVariables false
namespace Mine

section
variable {prog : Program} {w : World} {K : Frag} {b : Bs} {env : Env} {m m' cm : Nm} {G G' : View} {mu mu' : Mu} {A : Around} {s : Shared} {E : Value → Shared → Prop}

/-- what a rule of the library hands back -/
theorem Fs.of_lib (F : Fs b env m cm G mu s) {d : Addr} (hd : s.heap.get? d = none) {h' : Heap} {new : List (Addr × Obj)} (F' : Fr b.T env.locals h' m) (N' : News b.T env.locals h' (new ++ allOf b.T s.heap env.locals d))
    (hn : ∀ p ∈ new, s.heap.get? p.1 = none) (tk : Nat) : ∃ G', Le G G' ∧ (∀ p ∈ new, G' p.1 = some p.2) ∧ Fs b env m cm G' mu { s with heap := h', toks := tk } := by
  have kept : ∀ a o, a ≠ env.locals → s.heap.get? a = some o → h'.get? a = some o := fun a o h1 e =>
    kept_of F.f.fr F' (fun p hp => N' p (List.mem_append_right _ hp)) a o h1 (fun q => by rw [q, hd] at e; cases e) e
  have hin : ∀ p ∈ new, h'.get? p.1 = some p.2 := fun p hp => (N' p (List.mem_append_left _ hp)).1
  let G' : View := fun c => if c ∈ new.map (·.1) then h'.get? c else G c
  have old : ∀ c o, G c = some o → c ∉ new.map (·.1) := fun c o e q => by
    obtain ⟨p, hp, rfl⟩ := List.mem_map.mp q
    have := F.f.view _ _ e
    rw [hn p hp] at this; cases this
  refine ⟨G', fun c o e => (if_neg (old c o e)).trans e, fun p hp => (if_pos (List.mem_map_of_mem hp)).trans (hin p hp), F.put (F.f.step F'.ns kept (fun c o e => (if_neg (old c o e)).trans e) (fun c o e => ?_) fun c o e => ?_) tk⟩
  · by_cases q : c ∈ new.map (·.1)
    · rw [if_pos q] at e; exact e
    · rw [if_neg q] at e
      exact kept c o (fun r => by rw [r, F.f.nL] at e; cases e) (F.f.view c o e)
  · by_cases q : c ∈ new.map (·.1)
    · obtain ⟨p, hp, rfl⟩ := List.mem_map.mp q
      exact .inr (hn p hp)
    · rw [if_neg q] at e; exact .inl e

theorem Fs.of_lib0 (F : Fs b env m cm G mu s) {d : Addr} (hd : s.heap.get? d = none) {h' : Heap} (F' : Fr b.T env.locals h' m) (N' : News b.T env.locals h' (allOf b.T s.heap env.locals d)) (tk : Nat) : Fs b env m cm G mu { s with heap := h', toks := tk } := by
  have kept : ∀ a o, a ≠ env.locals → s.heap.get? a = some o → h'.get? a = some o := fun a o h1 e => kept_of F.f.fr F' N' a o h1 (fun q => by rw [q, hd] at e; cases e) e
  exact F.put (F.f.step F'.ns kept (Le.refl _) (fun c o e => kept c o (fun r => by rw [r, F.f.nL] at e; cases e) (F.f.view c o e)) fun _ _ e => .inl e) tk

theorem fresh_none (s : Shared) : s.heap.get? s.heap.objs.size = none := Heap.get?_none_of_le (Nat.le_refl _)

/-- a known object is changed no more by the frame: from the view to the changeable ones -/
theorem Fs.newMu (F : Fs b env m cm G mu s) {a : Addr} {o : Obj} {h' : Heap} (hn : s.heap.get? a = none) (F' : Fs b env m cm G mu { s with heap := h' }) (ho : h'.get? a = some o) : Fs b env m cm G ((a, o) :: mu) { s with heap := h' } := by
  have hL : ∃ o, s.heap.get? env.locals = some o := let ⟨o, _, _, e, _⟩ := F.f.ns; ⟨o, e⟩
  refine ⟨{ F'.f with mus := fun p hp => ?_, mnd := ?_, mfr := fun p hp => ?_, xin := fun c hc => List.mem_cons_of_mem _ (F'.f.xin c hc) }, F'.r⟩
  · rcases List.mem_cons.mp hp with rfl | hp
    · refine ⟨ho, fun q => ?_, ?_, fun n c hc q => ?_⟩
      · obtain ⟨o', e⟩ := hL; rw [← q, hn] at e; cases e
      · cases q : G a with
        | none => rfl
        | some o' => have := F.f.view _ _ q; rw [hn] at this; cases this
      · obtain ⟨o', e, _⟩ := F.f.cell n c hc
        rw [← q, hn] at e; cases e
    · exact F'.f.mus p hp
  · refine List.nodup_cons.mpr ⟨fun hm => ?_, F'.f.mnd⟩
    obtain ⟨p, hp, e⟩ := List.mem_map.mp hm
    have := (F.f.mus p hp).1
    rw [e, hn] at this; cases this
  · rcases List.mem_cons.mp hp with rfl | hp
    · right
      cases r : b.H.get? a with
      | none => rfl
      | some o' =>
        by_cases hx : a ∈ b.X
        · obtain ⟨p, hp, e⟩ := List.mem_map.mp (F.f.xin _ hx)
          have := (F.f.mus p hp).1
          rw [e, hn] at this; cases this
        · have := F.f.keep _ o' r hx; rw [hn] at this; cases this
    · exact F'.f.mfr p hp

theorem whileR0 {test : PySem.Expr} {body : List Stmt} {pos : Pos} {Q : Flow → Shared → Prop} (F : Fs b env m cm G mu s) (J : Nat → Nm → Nm → View → Mu → Prop) (n : Nat) (hJ : J n m cm G mu)
    (turn : ∀ k m₁ cm₁ G₁ mu₁ s₁ E₁, Le G G₁ → J k m₁ cm₁ G₁ mu₁ → Fs b env m₁ cm₁ G₁ mu₁ s₁ → wpAny (model prog w) A (isTrue test env (eval test env)) (fun c s₂ =>
      if c = true then wpAny (model prog w) A (execs body env) (fun f s₃ => match f with
        | .next | .cont => E5 fun k' m₂ cm₂ G₂ mu₂ => A4 (k' < k) (Le G₁ G₂) (Fs b env m₂ cm₂ G₂ mu₂ s₃) (J k' m₂ cm₂ G₂ mu₂)
        | .brk => Q .next s₃
        | .ret v => Q (.ret v) s₃) E₁ s₂
      else Q .next s₂) E₁ s₁) : wpAny (model prog w) A (exec (.While test body [] pos) env) Q E s := by
  refine wpAny_While (codeAny_whileLoop (fun k s' => E4 fun m₁ cm₁ G₁ mu₁ => A3 (Le G G₁) (J k m₁ cm₁ G₁ mu₁) (Fs b env m₁ cm₁ G₁ mu₁ s')) ?_ n ⟨m, cm, G, mu, Le.refl _, hJ, F⟩)
  rintro k s' ⟨m₁, cm₁, G₁, mu₁, le₁, J₁, F₁⟩
  refine wpAny_mono (turn k m₁ cm₁ G₁ mu₁ s' _ le₁ J₁ F₁) (fun c s₂ h₂ => ?_) fun _ _ e => e
  cases c with
  | false =>
    simp only [Bool.false_eq_true, if_false] at h₂ ⊢
    exact wpAny_execs_nil h₂
  | true =>
    simp only [if_true] at h₂ ⊢
    refine wpAny_mono h₂ (fun f s₃ h₃ => ?_) fun _ _ e => e
    have fin : (E5 fun k' m₂ cm₂ G₂ mu₂ => A4 (k' < k) (Le G₁ G₂) (Fs b env m₂ cm₂ G₂ mu₂ s₃) (J k' m₂ cm₂ G₂ mu₂)) → ∃ k', k' < k ∧ E4 fun m₁ cm₁ G₁ mu₁ => A3 (Le G G₁) (J k' m₁ cm₁ G₁ mu₁) (Fs b env m₁ cm₁ G₁ mu₁ s₃) := by
      rintro ⟨k', m₂, cm₂, G₂, mu₂, hk, le₂, F₂, J₂⟩
      exact ⟨k', hk, m₂, cm₂, G₂, mu₂, le₁.trans le₂, J₂, F₂⟩
    cases f with
    | next => exact fin h₃
    | cont => exact fin h₃
    | brk => exact h₃
    | ret v => exact h₃
theorem whileR {test : PySem.Expr} {body : List Stmt} {pos : Pos} {Q : Flow → Shared → Prop} (F : Fs b env m cm G mu s) (J : Nat → Nm → Nm → View → Mu → Prop) (n : Nat) (hJ : J n m cm G mu)
    (turn : ∀ k m₁ cm₁ G₁ mu₁ s₁ E₁, Le G G₁ → J k m₁ cm₁ G₁ mu₁ → Fs b env m₁ cm₁ G₁ mu₁ s₁ → ∀ QQ : Flow → Shared → Prop, Lp QQ (fun s₃ => E5 fun k' m₂ cm₂ G₂ mu₂ => A4 (k' < k) (Le G₁ G₂) (Fs b env m₂ cm₂ G₂ mu₂ s₃) (J k' m₂ cm₂ G₂ mu₂)) (fun s₃ => Q .next s₃) (fun v s₃ => Q (.ret v) s₃) → wpAny (model prog w) A (isTrue test env (eval test env)) (fun c s₂ =>
      if c = true then wpAny (model prog w) A (execs body env) QQ E₁ s₂
      else Q .next s₂) E₁ s₁) : wpAny (model prog w) A (exec (.While test body [] pos) env) Q E s :=
  whileR0 F J n hJ (fun k m₁ cm₁ G₁ mu₁ s₁ E₁ a b c => turn k m₁ cm₁ G₁ mu₁ s₁ E₁ a b c _ ⟨fun s x => ⟨x, x⟩, fun s x => x, fun v s x => x⟩)

/-- lists that grow -/
theorem appendM {pre post : Mu} {l : Addr} {vs : List Value} {n : Nat} {v : Value} {Q : Value → Shared → Prop} (F : Fs b env m cm G (pre ++ (l, PySem.W.listOf vs.toArray n) :: post) s) (hz : vs.length ≤ 1000)
    (h : ∀ s', Fs b env m cm G (pre ++ (l, PySem.W.listOf (vs ++ [v]).toArray (n + 1)) :: post) s' → Q .none s') : wpAny (model prog w) A (PySem.call (.builtin "list.append") [.ref l, v]) Q E s := by
  have M := F.f.mus (l, PySem.W.listOf vs.toArray n) (List.mem_append_right _ (.head _))
  refine append_at M.1 (fun h' hs ho => h _ (F.heap (F.f.mut hs ?_))) (by simp [sizeLine_eq]; lia)
  rw [ho]; simp
theorem methA {pre post : Mu} {l : Addr} {vs : List Value} {n : Nat} {pl : Sem Bool} {Q : Value × List Value → Shared → Prop} (F : Fs b env m cm G (pre ++ (l, PySem.W.listOf vs.toArray n) :: post) s) (h : Q (.builtin "list.append", [.ref l]) s) :
    wpAny (model prog w) A (getMethod (.ref l) "append" pl) Q E s := Calls.getMethod_list_append (F.f.mus (l, PySem.W.listOf vs.toArray n) (List.mem_append_right _ (.head _))).1 rfl rfl h

/-- two lists end to end -/
theorem addL {l l' : Addr} {vs us : List Value} {Q : Value → Shared → Prop} (F : Fs b env m cm G mu s) (hl : s.heap.IsList l vs.toArray) (hr : s.heap.IsList l' us.toArray) (hz : vs.length + us.length ≤ 1000)
    (h : ∀ a s' G', Le G G' → G' a = some (lstO (vs ++ us)) → Fs b env m cm G' mu s' → Q (.ref a) s') : wpAny (model prog w) A (binaryOp .Add (.ref l) (.ref l')) Q E s := by
  refine add_arrays F.f.fr (F.f.news s.heap.objs.size) hl hr (fun h' F' N' => ?_) (by simp [sizeLine_eq]; lia)
  obtain ⟨G', le, hn, F₂⟩ := F.of_lib (fresh_none s) (new := [_]) F' N' (fun p hp => by rw [List.mem_singleton.mp hp]; exact fresh_none s) s.toks
  exact h _ _ G' le (by simpa using hn _ (.head _)) F₂

/-- two ways of statements meet -/
theorem joinSt {c : Bool} {b1 b2 : List Stmt} {Q : Flow → Shared → Prop} (F : Fs b env m cm G mu s) (P : Nm → Prop) (h1 : c = true → wpAny (model prog w) A (execs b1 env) (fun f s' => f = .next ∧ ∃ m', P m' ∧ Fs b env m' cm G mu s') E s)
    (h2 : c = false → wpAny (model prog w) A (execs b2 env) (fun f s' => f = .next ∧ ∃ m', P m' ∧ Fs b env m' cm G mu s') E s) (k : ∀ m' s', P m' → Fs b env m' cm G mu s' → Q .next s') :
    if c = true then wpAny (model prog w) A (execs b1 env) Q E s else wpAny (model prog w) A (execs b2 env) Q E s := by
  cases c with
  | true => exact wpAny_mono (h1 rfl) (fun f s' q => by obtain ⟨rfl, m', p, F'⟩ := q; exact k m' s' p F') fun _ _ e => e
  | false => exact wpAny_mono (h2 rfl) (fun f s' q => by obtain ⟨rfl, m', p, F'⟩ := q; exact k m' s' p F') fun _ _ e => e

theorem halfI {x : Int} {t u : Tok} {Q : Value → Shared → Prop} (hh : A.handled = none) (F : Fs b env m cm G mu s) (h : ∀ t s', Fs b env m cm G mu s' → Q (.int (x / 2) t) s') : wpAny (model prog w) A (binaryOp .FloorDiv (.int x t) (.int 2 u)) Q E s :=
  floordiv_int_or hh (fun e => absurd e (by decide)) (fun _ => by
    rw [show x.fdiv 2 = x / 2 from Int.fdiv_eq_ediv_of_nonneg x (by decide)]; exact h _ _ (F.tok _)) fun _ => Or.inl (PyProof.noPylong_small (by decide))
theorem negI {x : Int} {t : Tok} {Q : Value → Shared → Prop} (F : Fs b env m cm G mu s) (h : ∀ t s', Fs b env m cm G mu s' → Q (.int (-x) t) s') : wpAny (model prog w) A (unaryOp .USub (.int x t)) Q E s := PyProof.Rows.neg_int (h _ _ (F.tok _))
theorem splitB {c : Bool} {P P' : Prop} (ht : c = true → P) (hf : c = false → P') : if c = true then P else P' := split_bool ht hf

theorem loadL {x : PySem.Str} {v : Value} {Q : Value → Shared → Prop} (F : Fs b env m cm G mu s) (hv : m x = some v) (h : Q v s) (hk : env.scope.kind = .function := by rfl) (hl : env.kindOf x = some .local := by rfl) : wpAny (model prog w) A (loadName env x) Q E s := wpAny_loadName_local hk hl F.f.ns hv h
theorem iaddI {x y : Int} {t u : Tok} {Q : Value → Shared → Prop} (F : Fs b env m cm G mu s) (h : ∀ t s', Fs b env m cm G mu s' → Q (.int (x + y) t) s') : wpAny (model prog w) A (inplaceOp .Add (.int x t) (.int y u)) Q E s := PyProof.Rows.iadd_int (h _ _ (F.tok _))
theorem isubI {x y : Int} {t u : Tok} {Q : Value → Shared → Prop} (F : Fs b env m cm G mu s) (h : ∀ t s', Fs b env m cm G mu s' → Q (.int (x - y) t) s') : wpAny (model prog w) A (inplaceOp .Sub (.int x t) (.int y u)) Q E s := PyProof.Rows.isub_int (h _ _ (F.tok _))

theorem ifT {P P' : Prop} (h : P) : if true = true then P else P' := h
theorem ifF {P P' : Prop} (h : P') : if false = true then P else P' := h

theorem whileT0 {test : PySem.Expr} {body : List Stmt} {pos : Pos} {Q : Flow → Shared → Prop} (F : Fs b env m cm G mu s) (J Y N : Nat → Nm → Nm → View → Mu → Prop) (n : Nat) (hJ : J n m cm G mu)
    (tst : ∀ k m₁ cm₁ G₁ mu₁ s₁ E₁, Le G G₁ → J k m₁ cm₁ G₁ mu₁ → Fs b env m₁ cm₁ G₁ mu₁ s₁ → wpAny (model prog w) A (isTrue test env (eval test env)) (fun c s₂ => E2 fun G₂ mu₂ => A4 (Le G₁ G₂) (Fs b env m₁ cm₁ G₂ mu₂ s₂) ((c = true → Y k m₁ cm₁ G₂ mu₂)) ((c = false → N k m₁ cm₁ G₂ mu₂))) E₁ s₁)
    (turn : ∀ k m₁ cm₁ G₁ mu₁ s₁ E₁, Le G G₁ → Y k m₁ cm₁ G₁ mu₁ → Fs b env m₁ cm₁ G₁ mu₁ s₁ → wpAny (model prog w) A (execs body env) (fun f s₃ => match f with
        | .next | .cont => E5 fun k' m₂ cm₂ G₂ mu₂ => A4 (k' < k) (Le G₁ G₂) (Fs b env m₂ cm₂ G₂ mu₂ s₃) (J k' m₂ cm₂ G₂ mu₂)
        | .brk => Q .next s₃
        | .ret v => Q (.ret v) s₃) E₁ s₁)
    (done : ∀ k m₁ cm₁ G₁ mu₁ s₁, Le G G₁ → N k m₁ cm₁ G₁ mu₁ → Fs b env m₁ cm₁ G₁ mu₁ s₁ → Q .next s₁) : wpAny (model prog w) A (exec (.While test body [] pos) env) Q E s := by
  refine whileR0 F J n hJ fun k m₁ cm₁ G₁ mu₁ s₁ E₁ le J₁ F₁ => wpAny_mono (tst k m₁ cm₁ G₁ mu₁ s₁ E₁ le J₁ F₁) (fun c s₂ h => ?_) fun _ _ e => e
  obtain ⟨G₂, mu₂, le₂, F₂, hy, hn⟩ := h
  cases c with
  | true =>
    refine ifT (wpAny_mono (turn k m₁ cm₁ G₂ mu₂ s₂ E₁ (le.trans le₂) (hy rfl) F₂) (fun f s₃ h₃ => ?_) fun _ _ e => e)
    have fin : (E5 fun k' m₂ cm₂ G₃ mu₃ => A4 (k' < k) (Le G₂ G₃) (Fs b env m₂ cm₂ G₃ mu₃ s₃) (J k' m₂ cm₂ G₃ mu₃)) → E5 fun k' m₂ cm₂ G₂ mu₂ => A4 (k' < k) (Le G₁ G₂) (Fs b env m₂ cm₂ G₂ mu₂ s₃) (J k' m₂ cm₂ G₂ mu₂) := fun ⟨k', m₂, cm₂, G₃, mu₃, a, b, c, d⟩ => ⟨k', m₂, cm₂, G₃, mu₃, a, le₂.trans b, c, d⟩
    cases f with
    | next => exact fin h₃
    | cont => exact fin h₃
    | brk => exact h₃
    | ret v => exact h₃
  | false => exact ifF (done k m₁ cm₁ G₂ mu₂ s₂ (le.trans le₂) (hn rfl) F₂)
theorem whileT {test : PySem.Expr} {body : List Stmt} {pos : Pos} {Q : Flow → Shared → Prop} (F : Fs b env m cm G mu s) (J Y N : Nat → Nm → Nm → View → Mu → Prop) (n : Nat) (hJ : J n m cm G mu)
    (tst : ∀ k m₁ cm₁ G₁ mu₁ s₁ E₁, Le G G₁ → J k m₁ cm₁ G₁ mu₁ → Fs b env m₁ cm₁ G₁ mu₁ s₁ → wpAny (model prog w) A (isTrue test env (eval test env)) (fun c s₂ => E2 fun G₂ mu₂ => A4 (Le G₁ G₂) (Fs b env m₁ cm₁ G₂ mu₂ s₂) ((c = true → Y k m₁ cm₁ G₂ mu₂)) ((c = false → N k m₁ cm₁ G₂ mu₂))) E₁ s₁)
    (turn : ∀ k m₁ cm₁ G₁ mu₁ s₁ E₁, Le G G₁ → Y k m₁ cm₁ G₁ mu₁ → Fs b env m₁ cm₁ G₁ mu₁ s₁ → ∀ QQ : Flow → Shared → Prop, Lp QQ (fun s₃ => E5 fun k' m₂ cm₂ G₂ mu₂ => A4 (k' < k) (Le G₁ G₂) (Fs b env m₂ cm₂ G₂ mu₂ s₃) (J k' m₂ cm₂ G₂ mu₂)) (fun s₃ => Q .next s₃) (fun v s₃ => Q (.ret v) s₃) → wpAny (model prog w) A (execs body env) QQ E₁ s₁)
    (done : ∀ k m₁ cm₁ G₁ mu₁ s₁, Le G G₁ → N k m₁ cm₁ G₁ mu₁ → Fs b env m₁ cm₁ G₁ mu₁ s₁ → Q .next s₁) : wpAny (model prog w) A (exec (.While test body [] pos) env) Q E s :=
  whileT0 F J Y N n hJ tst (fun k m₁ cm₁ G₁ mu₁ s₁ E₁ a b c => turn k m₁ cm₁ G₁ mu₁ s₁ E₁ a b c _ ⟨fun s x => ⟨x, x⟩, fun s x => x, fun v s x => x⟩) done

theorem ifS {test : PySem.Expr} {b1 b2 : List Stmt} {pos : Pos} {Q : Flow → Shared → Prop} (F : Fs b env m cm G mu s) (Y : View → Mu → Bool → Prop)
    (tst : ∀ E, wpAny (model prog w) A (isTrue test env (eval test env)) (fun c s₂ => E2 fun G₂ mu₂ => A3 (Le G G₂) (Fs b env m cm G₂ mu₂ s₂) (Y G₂ mu₂ c)) E s)
    (k : ∀ c G₂ mu₂ s₂, Le G G₂ → Fs b env m cm G₂ mu₂ s₂ → Y G₂ mu₂ c → if c = true then wpAny (model prog w) A (execs b1 env) Q E s₂ else wpAny (model prog w) A (execs b2 env) Q E s₂) : wpAny (model prog w) A (exec (.If test b1 b2 pos) env) Q E s :=
  wpAny_If (wpAny_mono (tst E) (fun c s₂ ⟨G₂, mu₂, le, F₂, y⟩ => k c G₂ mu₂ s₂ le F₂ y) fun _ _ e => e)
end
end Mine
end

/-! K1 -/
section
open PySem PySem.W PyProof.Rows
set_option Elab.async false
set_option linter.unusedVariables false
namespace Mine
section
variable {M : Model} {A : Around} {env : Env} {s : Shared} {E : Value → Shared → Prop}
theorem execsK {st : Stmt} {rest : List Stmt} {Q : Flow → Shared → Prop} (h : ∀ Qn, Nx Qn (fun s' => wpAny M A (execs rest env) Q E s') → Rt Qn Q → wpAny M A (exec st env) Qn E s) : wpAny M A (execs (st :: rest) env) Q E s := by
  refine wpAny_execs_cons (h _ (fun s' p => p) (fun v s' p => p))
theorem For_ {target iter : Expr} {body orelse : List Stmt} {pos : Pos} {Q : Flow → Shared → Prop}
    (h : ∀ R : Result → Shared → Prop, Fo Q R → wpAny M A (eval iter env) (fun x s₁ => wpAny M A (pyIter x) (fun it s₂ => codeAny M A (.forLoop target it body orelse env) R s₂) E s₁) E s)
    (hf : ∀ x, foldedSetIterable iter env x = pure x) : wpAny M A (exec (.For target iter body orelse pos) env) Q E s :=
  wpAny_For (h _ fun f s' q => q) hf
theorem inAnd {K : Frag} {b : Bs} {m cm : Nm} {G : View} {mu : Mu} {P : Prop} (C : Cx K b.T) (F : Fs b env m cm G mu s) (h : P) : K.In s.heap ∧ P := ⟨fun a o e => F.keepT a o (C.X a o e), h⟩
end
end Mine
end

/-! P0 -/
section
set_option linter.unusedVariables false
namespace Mine
inductive All2 {α β : Type} (R : α → β → Prop) : List α → List β → Prop
  | nil : All2 R [] []
  | cons {a : α} {b : β} {as : List α} {bs : List β} : R a b → All2 R as bs → All2 R (a :: as) (b :: bs)
namespace All2
variable {α β : Type} {R R' : α → β → Prop} {as as' : List α} {bs bs' : List β}
theorem mono (h : All2 R as bs) (k : ∀ a b, R a b → R' a b) : All2 R' as bs := by
  induction h with
  | nil => exact .nil
  | cons r _ ih => exact .cons (k _ _ r) ih
theorem app (h : All2 R as bs) (h' : All2 R as' bs') : All2 R (as ++ as') (bs ++ bs') := by
  induction h with
  | nil => exact h'
  | cons r _ ih => exact .cons r ih
theorem len (h : All2 R as bs) : as.length = bs.length := by
  induction h with
  | nil => rfl
  | cons _ _ ih => rw [List.length_cons, List.length_cons, ih]
theorem get (h : All2 R as bs) {i : Nat} {a : α} (e : as[i]? = some a) : ∃ b, bs[i]? = some b ∧ R a b := by
  induction h generalizing i with
  | nil => simp at e
  | cons r _ ih =>
    cases i with
    | zero => simp at e; subst e; exact ⟨_, rfl, r⟩
    | succ i => simp at e; simpa using ih e
theorem get' (h : All2 R as bs) {i : Nat} {b : β} (e : bs[i]? = some b) : ∃ a, as[i]? = some a ∧ R a b := by
  induction h generalizing i with
  | nil => simp at e
  | cons r _ ih =>
    cases i with
    | zero => simp at e; subst e; exact ⟨_, rfl, r⟩
    | succ i => simp at e; simpa using ih e
theorem one {a : α} {b : β} (r : R a b) : All2 R [a] [b] := .cons r .nil
theorem mem (h : All2 R as bs) {a : α} (e : a ∈ as) : ∃ b, b ∈ bs ∧ R a b := by
  obtain ⟨i, hi⟩ := List.mem_iff_getElem?.mp e
  obtain ⟨b, hb, r⟩ := h.get hi
  exact ⟨b, List.mem_of_getElem? hb, r⟩
end All2

structure Row where
  addr : Int
  file : Int
  line : Int
  stmt : Bool
  fin : Bool
  deriving DecidableEq

def Chain : Int → List Row → Int → Prop
  | a, [], z => a = z
  | a, r :: rs, z => r.addr = a ∧ ∃ b, a ≤ b ∧ b ≤ a + 6 ∧ Chain b rs z
theorem Chain.snoc : ∀ {rs : List Row} {a z z' : Int} {r : Row}, Chain a rs z → r.addr = z → z ≤ z' → z' ≤ z + 6 → Chain a (rs ++ [r]) z'
  | [], a, z, z', r, h, e, h1, h2 => by
    have h : a = z := h
    subst h
    exact ⟨e, z', h1, h2, rfl⟩
  | x :: rs, a, z, z', r, h, e, h1, h2 => by
    obtain ⟨hx, b, h3, h4, h5⟩ := h
    exact ⟨hx, b, h3, h4, h5.snoc e h1 h2⟩
theorem Chain.bound : ∀ {rs : List Row} {a z : Int}, Chain a rs z → a ≤ z ∧ z ≤ a + 6 * rs.length
  | [], a, z, h => by
    have h : a = z := h
    subst h; simp
  | x :: rs, a, z, h => by
    obtain ⟨hx, b, h3, h4, h5⟩ := h
    have := h5.bound
    rw [List.length_cons]; omega
/-- a row of code -/
def Code (many : Int) (r : Row) : Prop := r.fin = false ∧ 1 ≤ r.file ∧ r.file ≤ many + 1 ∧ 1 ≤ r.line ∧ r.line ≤ 6
/-- one sequence of rows -/
def SeqOk (start many : Int) (rs : List Row) : Prop := ∃ body z, rs = body ++ [⟨z, 1, 1, true, true⟩] ∧ Chain start body z ∧ (∀ r ∈ body, Code many r) ∧ body.length ≤ 6

/-- a span: lo, hi, the row's place -/
structure Sp where
  lo : Int
  hi : Int
  at_ : Nat
  deriving DecidableEq
/-- ascending, none within another -/
structure SpsOk (sps : List Sp) : Prop where
  room : ∀ p ∈ sps, p.lo < p.hi
  ord : ∀ (i j : Nat) p q, i < j → sps[i]? = some p → sps[j]? = some q → p.hi ≤ q.lo
theorem SpsOk.lo {sps : List Sp} (h : SpsOk sps) {i j : Nat} {p q : Sp} (hij : i ≤ j) (hi : sps[i]? = some p) (hj : sps[j]? = some q) : p.lo ≤ q.lo := by
  rcases Nat.lt_or_ge i j with q1 | q1
  · have := h.ord i j p q q1 hi hj
    have := h.room p (List.mem_of_getElem? hi)
    omega
  · have : i = j := by omega
    subst this; rw [hi] at hj; cases hj; exact Int.le_refl _
/-- where an address lies -/
def PlaceIs (sps : List Sp) (a k : Int) : Prop := (k = -1 ∧ ∀ p ∈ sps, ¬ (p.lo ≤ a ∧ a < p.hi)) ∨ ∃ (i : Nat) (p : Sp), k = i ∧ sps[i]? = some p ∧ p.lo ≤ a ∧ a < p.hi
end Mine
end

/-! TS1 -/
section
open PySem PyProof.Rows
set_option Elab.async false
set_option maxRecDepth 100000
set_option maxHeartbeats 4000000
set_option linter.unusedVariables false
namespace Mine

abbrev Pend := Array (Nat × Nat × Nat)
/-- how keys are told apart: a comparison that answers by an Int and leaves the state as it is -/
structure SOrd (prog : Program) (w : World) (A : Around) (s : Shared) where
  κ : SortKind
  kf : Value → Int
  V : Value → Prop
  lt : ∀ (E : Value → Shared → Prop) (x y : Value) {Q : Bool → Shared → Prop}, V x → V y → Q (decide (kf x < kf y)) s → wpAny (model prog w) A (keyLt' κ x y) Q E s
namespace SOrd
variable {prog : Program} {w : World} {A : Around} {s : Shared} (O : SOrd prog w A s)
def num (p : Keyed) : Int := O.kf p.1
def I (p : Keyed) : Prop := O.V p.1
def K (xs : Array Keyed) (i : Nat) : Int := match xs[i]? with | some p => O.kf p.1 | none => 0
def Keys (xs : Array Keyed) : Prop := ∀ p, p ∈ xs.toList → O.V p.1
theorem K_congr {xs ys : Array Keyed} {i j : Nat} (h : xs[i]? = ys[j]?) : O.K xs i = O.K ys j := by unfold K; rw [h]
theorem K_bubble {xs : Array Keyed} {src d : Nat} (hs : src < xs.size) (hd : d ≤ src) (k : Nat) :
    O.K (bubble xs src d) k = if k = src - d then O.K xs src else if src - d < k ∧ k ≤ src then O.K xs (k - 1) else O.K xs k := by
  have e := getElem?_bubble hs d hd k
  by_cases h1 : k = src - d
  · rw [if_pos h1] at e ⊢; exact O.K_congr e
  · rw [if_neg h1] at e ⊢
    by_cases h2 : src - d < k ∧ k ≤ src
    · rw [if_pos h2] at e ⊢; exact O.K_congr e
    · rw [if_neg h2] at e ⊢; exact O.K_congr e
theorem K_mirror {xs : Array Keyed} {i j : Nat} (hj : j ≤ xs.size) (k : Nat) : O.K (mirror xs i j ((j - i) / 2)) k = if i ≤ k ∧ k < j then O.K xs (i + j - 1 - k) else O.K xs k := by
  have e := getElem?_mirror_all (i := i) hj k
  by_cases h1 : i ≤ k ∧ k < j
  · rw [if_pos h1] at e ⊢; exact O.K_congr e
  · rw [if_neg h1] at e ⊢; exact O.K_congr e
theorem K_mirror_equal {xs : Array Keyed} {i j : Nat} (hj : j ≤ xs.size) (heq : ∀ k, i ≤ k → k < j → O.K xs k = O.K xs (j - 1)) (k : Nat) : O.K (mirror xs i j ((j - i) / 2)) k = O.K xs k := by
  rw [O.K_mirror hj]
  split
  · rw [heq _ (by lia) (by lia), heq k (by lia) (by lia)]
  · rfl
end SOrd
section
variable {prog : Program} {w : World} {A : Around} {s : Shared} (O : SOrd prog w A s)
structure SB (a₀ : Array Keyed) (p : Pend) (st : SortSt) : Prop where
  perm : (arrOf st).Perm a₀
  kind : kindOf st = O.κ
  failed : failedOf st = none
  pend : pendingOf st = p
def Asc (xs : Array Keyed) (lo hi : Nat) : Prop := ∀ i j, lo ≤ i → i ≤ j → j < hi → O.K xs i ≤ O.K xs j
def Dsc (xs : Array Keyed) (lo hi : Nat) : Prop := ∀ i j, lo ≤ i → i ≤ j → j < hi → O.K xs j ≤ O.K xs i
end

section
variable {prog : Program} {w : World} {A : Around} {E : Value → Shared → Prop} {s : Shared} {O : SOrd prog w A s} {a₀ : Array Keyed} {p : Pend}
theorem SB.size {st : SortSt} (h : SB O a₀ p st) : (arrOf st).size = a₀.size := h.perm.size_eq
theorem SB.setArr {st : SortSt} (h : SB O a₀ p st) {xs : Array Keyed} (hp : xs.Perm (arrOf st)) : SB O a₀ p (setArr st xs) := ⟨hp.trans h.perm, h.kind, h.failed, h.pend⟩
theorem SB.at {st : SortSt} (h : SB O a₀ p st) (h0 : O.Keys a₀) {i : Nat} (hi : i < a₀.size) : ∃ x, (arrOf st)[i]? = some x ∧ O.V x.1 ∧ O.K (arrOf st) i = O.kf x.1 := by
  have hi' : i < (arrOf st).size := by rw [h.size]; exact hi
  have hm : (arrOf st)[i] ∈ a₀.toList := (Array.perm_iff_toList_perm.mp h.perm).mem_iff.mp (by simp)
  have e : (arrOf st)[i]? = some (arrOf st)[i] := getElem?_pos _ i hi'
  refine ⟨(arrOf st)[i], e, h0 _ hm, ?_⟩
  unfold SOrd.K; rw [e]
theorem SB.lt {st : SortSt} {i j : Nat} {Q : Option Bool → SortSt → Prop} (hB : SB O a₀ p st) (h0 : O.Keys a₀) (hi : i < a₀.size) (hj : j < a₀.size) (h : Q (some (decide (O.K (arrOf st) i < O.K (arrOf st) j))) st) :
    wpS (model prog w) A E s (ltAt' i j) Q st := by
  obtain ⟨x, e1, v1, k1⟩ := hB.at h0 hi
  obtain ⟨y, e2, v2, k2⟩ := hB.at h0 hj
  rw [k1, k2] at h
  rw [ltAt'_eq]
  refine wpS_bind (wpS_get ?_)
  show wpS _ _ _ _ (do let x ← elem' (arrOf st) i; let y ← elem' (arrOf st) j; lt' x y) Q st
  rw [elem'_eq, elem'_eq, e1, e2]
  refine wpS_bind (wpS_pure (wpS_bind (wpS_pure ?_)))
  rw [lt'_eq]
  refine wpS_bind (wpS_get ?_)
  rw [hB.kind]
  refine wpS_bind (wpS_lift (wpAny_attempt (O.lt _ _ _ v1 v2 ⟨rfl, ?_⟩)))
  exact wpS_pure h
theorem asc_one (xs : Array Keyed) (lo : Nat) : Asc O xs lo (lo + 1) := fun i j a b c => by have : i = j := (by lia); subst this; exact Int.le_refl _
theorem wpS_up {lo a nrem : Nat} {st : SortSt} {Q : AscSt → SortSt → Prop} (h0 : O.Keys a₀) (hB : SB O a₀ p st) (hn : lo + nrem ≤ a₀.size) (ha : 1 ≤ a) (han : a ≤ nrem) (hs : Asc O (arrOf st) lo (lo + a))
    (h : ∀ n, a ≤ n → n ≤ nrem → Asc O (arrOf st) lo (lo + n) → (n = nrem ∨ O.K (arrOf st) (lo + n) < O.K (arrOf st) (lo + n - 1)) → Q (none, n) st) :
    wpS (model prog w) A E s (forIn [a:nrem] ((none, a) : AscSt) fun _ r => do
      let x ← ltAt' (lo + r.snd) (lo + r.snd - 1)
      match x with
      | some smaller => if smaller = true then pure (ForInStep.done (none, r.snd)) else pure (ForInStep.yield (none, r.snd + 1))
      | _ => pure (ForInStep.done (some none, r.snd))) Q st := by
  refine wpS_forRange (I := fun x c st' => st' = st ∧ c = (none, x) ∧ Asc O (arrOf st) lo (lo + x)) ?_ ?_ ⟨rfl, rfl, hs⟩
  · rintro x c st hax hxn ⟨rfl, rfl, hx⟩
    dsimp only
    refine wpS_bind (hB.lt h0 (by lia) (by lia) ?_)
    by_cases hc : O.K (arrOf st) (lo + x) < O.K (arrOf st) (lo + x - 1)
    · rw [decide_eq_true hc]
      exact wpS_pure (h x hax (by lia) hx (.inr hc))
    · rw [decide_eq_false hc]
      refine wpS_pure ⟨rfl, rfl, fun i j hi hij hj => ?_⟩
      by_cases e : j = lo + x
      · by_cases e2 : i = j
        · subst e2; exact Int.le_refl _
        · have := hx i (lo + x - 1) hi (by lia) (by lia)
          subst e; lia
      · exact hx i j hi hij (by lia)
  · rintro c st ⟨rfl, rfl, hx⟩
    rw [show max a nrem = nrem by lia] at hx ⊢
    exact h nrem han (Nat.le_refl _) hx (.inl rfl)

theorem wpS_rev {st : SortSt} {i j : Nat} {Q : Unit → SortSt → Prop} (h : Q () (setArr st (mirror (arrOf st) i j ((j - i) / 2)))) : wpS (model prog w) A E s (reverseSlice' i j) Q st := by
  rw [reverseSlice'_eq]; exact wpS_modify h
theorem tailL {lo n nrem : Nat} {st : SortSt} {Q : Option Nat → SortSt → Prop} (h0 : O.Keys a₀) (hB : SB O a₀ p st) (hn : lo + nrem ≤ a₀.size) (h1 : 1 ≤ n) (hnn : n ≤ nrem) (hs : Dsc O (arrOf st) lo (lo + n))
    (h : ∀ m st', SB O a₀ p st' → (∀ k, k < lo → O.K (arrOf st') k = O.K (arrOf st) k) → 1 ≤ m → m ≤ nrem → Asc O (arrOf st') lo (lo + m) → Q (some m) st') :
    wpS (model prog w) A E s (do
      reverseSlice' lo (lo + n)
      let r ← forIn [n:nrem] ((none, n) : AscSt) fun _ r => do
        let x ← ltAt' (lo + r.snd) (lo + r.snd - 1)
        match x with
        | some smaller => if smaller = true then pure (ForInStep.done (none, r.snd)) else pure (ForInStep.yield (none, r.snd + 1))
        | _ => pure (ForInStep.done (some none, r.snd))
      match r.fst with
      | some r => pure r
      | none => pure (some r.snd)) Q st := by
  have hsz : lo + n ≤ (arrOf st).size := by rw [hB.size]; lia
  have hB' : SB O a₀ p (setArr st (mirror (arrOf st) lo (lo + n) ((lo + n - lo) / 2))) := hB.setArr (mirror_perm _ _ _ _)
  refine wpS_bind (wpS_rev (wpS_bind (wpS_up h0 hB' hn h1 hnn (fun i j hi hij hj => ?_) fun m hm1 hm2 hm _ => wpS_pure (h m _ hB' (fun k hk => ?_) (by lia) hm2 hm))))
  · show O.K (mirror (arrOf st) lo (lo + n) ((lo + n - lo) / 2)) i ≤ O.K (mirror (arrOf st) lo (lo + n) ((lo + n - lo) / 2)) j
    rw [O.K_mirror hsz, O.K_mirror hsz, if_pos (by lia), if_pos (by lia)]
    exact hs _ _ (by lia) (by lia) (by lia)
  · show O.K (mirror (arrOf st) lo (lo + n) ((lo + n - lo) / 2)) k = _
    rw [O.K_mirror hsz, if_neg (by lia)]

theorem descL {lo n nrem : Nat} {st : SortSt} {Q : Option Nat → SortSt → Prop} (h0 : O.Keys a₀) (hB : SB O a₀ p st) (hn : lo + nrem ≤ a₀.size) (hnn : n + 1 ≤ nrem) (hs : Dsc O (arrOf st) lo (lo + n + 1))
    (h : ∀ m st', SB O a₀ p st' → (∀ k, k < lo → O.K (arrOf st') k = O.K (arrOf st) k) → 1 ≤ m → m ≤ nrem → Asc O (arrOf st') lo (lo + m) → Q (some m) st') :
    wpS (model prog w) A E s (do
      liftM (rule "list.sort.descending-run")
      let r ← forIn [n + 1:nrem] ((none, n + 1, 0) : DescSt) fun _ r => do
        let x ← ltAt' (lo + r.snd.fst) (lo + r.snd.fst - 1)
        match x with
        | some smaller =>
          if smaller = true then
            if r.snd.snd > 0 then do
              reverseSlice' (lo + r.snd.fst - (r.snd.snd + 1)) (lo + r.snd.fst)
              pure (ForInStep.yield (none, r.snd.fst + 1, 0))
            else pure (ForInStep.yield (none, r.snd.fst + 1, 0))
          else do
            let x ← ltAt' (lo + r.snd.fst - 1) (lo + r.snd.fst)
            match x with
            | some larger =>
              if larger = true then pure (ForInStep.done (none, r.snd.fst, r.snd.snd))
              else pure (ForInStep.yield (none, r.snd.fst + 1, r.snd.snd + 1))
            | _ => pure (ForInStep.done (some none, r.snd.fst, r.snd.snd))
        | _ => pure (ForInStep.done (some none, r.snd.fst, r.snd.snd))
      match r.fst with
      | some r => pure r
      | none =>
        if r.snd.snd > 0 then do
          reverseSlice' (lo + r.snd.fst - (r.snd.snd + 1)) (lo + r.snd.fst)
          reverseSlice' lo (lo + r.snd.fst)
          let r ← forIn [r.snd.fst:nrem] ((none, r.snd.fst) : AscSt) fun _ r => do
            let x ← ltAt' (lo + r.snd) (lo + r.snd - 1)
            match x with
            | some smaller => if smaller = true then pure (ForInStep.done (none, r.snd)) else pure (ForInStep.yield (none, r.snd + 1))
            | _ => pure (ForInStep.done (some none, r.snd))
          match r.fst with
          | some r => pure r
          | none => pure (some r.snd)
        else do
          reverseSlice' lo (lo + r.snd.fst)
          let r ← forIn [r.snd.fst:nrem] ((none, r.snd.fst) : AscSt) fun _ r => do
            let x ← ltAt' (lo + r.snd) (lo + r.snd - 1)
            match x with
            | some smaller => if smaller = true then pure (ForInStep.done (none, r.snd)) else pure (ForInStep.yield (none, r.snd + 1))
            | _ => pure (ForInStep.done (some none, r.snd))
          match r.fst with
          | some r => pure r
          | none => pure (some r.snd)) Q st := by
  refine wpS_bind (wpS_lift (wpAny_rule ⟨rfl, ?_⟩))
  let I : Nat → DescSt → SortSt → Prop := fun x c st' => SB O a₀ p st' ∧ (∀ k, k < lo → O.K (arrOf st') k = O.K (arrOf st) k) ∧ ∃ q, c = (none, x, q) ∧ q + 1 ≤ x ∧ Dsc O (arrOf st') lo (lo + x) ∧ ∀ k, lo + x - (q + 1) ≤ k → k < lo + x → O.K (arrOf st') k = O.K (arrOf st') (lo + x - 1)
  refine wpS_bind (wpS_mono (wpS_forRange (I := I) (Q := fun c st' => ∃ x, n + 1 ≤ x ∧ x ≤ nrem ∧ I x c st') ?_ ?_
    ⟨hB, fun _ _ => rfl, 0, rfl, by lia, hs, fun k h1 h2 => by have : k = lo + (n + 1) - 1 := (by lia); rw [this]⟩) ?_)
  · rintro x c st' hx1 hx2 ⟨hB', hk, q, rfl, hq, hd, he⟩
    dsimp only
    have hsz : lo + x ≤ (arrOf st').size := by rw [hB'.size]; lia
    refine wpS_bind (hB'.lt h0 (by lia) (by lia) ?_)
    by_cases hc : O.K (arrOf st') (lo + x) < O.K (arrOf st') (lo + x - 1)
    · rw [decide_eq_true hc]
      have hd' : Dsc O (arrOf st') lo (lo + x + 1) := fun i j hi hij hj => by
        by_cases e : j = lo + x
        · by_cases e2 : i = j
          · subst e2; exact Int.le_refl _
          · have := hd i (lo + x - 1) hi (by lia) (by lia)
            subst e; lia
        · exact hd i j hi hij (by lia)
      dsimp only
      rw [if_pos rfl]
      split
      · have km := O.K_mirror_equal (i := lo + x - (q + 1)) hsz he
        refine wpS_bind (wpS_rev (wpS_pure ⟨hB'.setArr (mirror_perm _ _ _ _), fun k hk' => (km k).trans (hk k hk'), 0, rfl, by lia, fun i j hi hij hj => ?_, fun k h1 h2 => ?_⟩))
        · exact Int.le_trans (Int.le_of_eq (km j)) (Int.le_trans (hd' i j hi hij hj) (Int.le_of_eq (km i).symm))
        · have : k = lo + (x + 1) - 1 := by lia
          rw [this]
      · refine wpS_pure ⟨hB', hk, 0, rfl, by lia, hd', fun k h1 h2 => ?_⟩
        have : k = lo + (x + 1) - 1 := by lia
        rw [this]
    · rw [decide_eq_false hc]
      dsimp only
      rw [if_neg (by decide)]
      refine wpS_bind (hB'.lt h0 (by lia) (by lia) ?_)
      by_cases hc2 : O.K (arrOf st') (lo + x - 1) < O.K (arrOf st') (lo + x)
      · rw [decide_eq_true hc2]
        exact wpS_pure ⟨x, hx1, by lia, hB', hk, q, rfl, hq, hd, he⟩
      · rw [decide_eq_false hc2]
        refine wpS_pure ⟨hB', hk, q + 1, rfl, by lia, fun i j hi hij hj => ?_, fun k h1 h2 => ?_⟩
        · by_cases e : j = lo + x
          · by_cases e2 : i = j
            · subst e2; exact Int.le_refl _
            · have := hd i (lo + x - 1) hi (by lia) (by lia)
              subst e; lia
          · exact hd i j hi hij (by lia)
        · rw [show lo + (x + 1) - 1 = lo + x by lia]
          by_cases e : k = lo + x
          · rw [e]
          · have := he k (by lia) (by lia); lia
  · intro c st' hI
    exact ⟨_, by lia, by lia, hI⟩
  · rintro c st' ⟨x, hx1, hx2, hB', hk, q, rfl, hq, hd, he⟩
    dsimp only
    have hsz : lo + x ≤ (arrOf st').size := by rw [hB'.size]; lia
    split
    · have km := O.K_mirror_equal (i := lo + x - (q + 1)) hsz he
      refine wpS_bind (wpS_rev ?_)
      refine tailL h0 (hB'.setArr (mirror_perm _ _ _ _)) hn (by lia) hx2 (fun i j hi hij hj => ?_) fun m st2 hB2 hk2 => h m st2 hB2 fun k hk' => ((hk2 k hk').trans (km k)).trans (hk k hk')
      exact Int.le_trans (Int.le_of_eq (km j)) (Int.le_trans (hd i j hi hij hj) (Int.le_of_eq (km i).symm))
    · exact tailL h0 hB' hn (by lia) hx2 hd fun m st2 hB2 hk2 => h m st2 hB2 fun k hk' => (hk2 k hk').trans (hk k hk')

theorem castS {α : Type} {m m' : StateT SortSt Sem α} {Q : α → SortSt → Prop} {st : SortSt} (e : m = m') (h : wpS (model prog w) A E s m' Q st) : wpS (model prog w) A E s m Q st := e ▸ h
theorem countL {lo nrem : Nat} {st : SortSt} {Q : Option Nat → SortSt → Prop} (h0 : O.Keys a₀) (hB : SB O a₀ p st) (hn : lo + nrem ≤ a₀.size) (h1 : 1 ≤ nrem)
    (h : ∀ m st', SB O a₀ p st' → (∀ k, k < lo → O.K (arrOf st') k = O.K (arrOf st) k) → 1 ≤ m → m ≤ nrem → Asc O (arrOf st') lo (lo + m) → Q (some m) st') : wpS (model prog w) A E s (countRun' lo nrem) Q st := by
  rw [countRun'_eq]
  refine wpS_bind (wpS_up h0 hB hn (Nat.le_refl _) h1 (asc_one _ _) fun n hn1 hn2 ha hor => ?_)
  dsimp only
  by_cases hnn : n = nrem
  · rw [if_pos (by simpa using hnn)]
    exact wpS_pure (h n st hB (fun _ _ => rfl) hn1 hn2 ha)
  · rw [if_neg (by simpa using hnn)]
    have hlt := hor.resolve_left hnn
    by_cases hgt : n > 1
    · rw [if_pos hgt]
      refine wpS_bind (hB.lt h0 (by lia) (by lia) ?_)
      by_cases hc : O.K (arrOf st) lo < O.K (arrOf st) (lo + n - 1)
      · rw [decide_eq_true hc]
        exact wpS_pure (h n st hB (fun _ _ => rfl) hn1 hn2 ha)
      · rw [decide_eq_false hc]
        have hsz : lo + n ≤ (arrOf st).size := by rw [hB.size]; lia
        have he : ∀ k, lo ≤ k → k < lo + n → O.K (arrOf st) k = O.K (arrOf st) (lo + n - 1) := fun k h1 h2 => by
          have := ha lo k (by lia) h1 h2
          have := ha k (lo + n - 1) h1 (by with_reducible exact qa4 (by assumption)) (by lia)
          lia
        have km := O.K_mirror_equal (i := lo) hsz he
        refine wpS_bind (wpS_rev ?_)
        refine castS ?_ (descL (n := n) h0 (hB.setArr (mirror_perm _ _ _ _)) hn (by lia) (fun i j hi hij hj => ?_) fun m st2 hB2 hk2 => h m st2 hB2 fun k hk' => (hk2 k hk').trans (km k))
        · congr 1
          funext _
          congr 1
          funext x
          obtain ⟨r, n2, q2⟩ := x
          cases r with
          | some r => rfl
          | none =>
            dsimp only
            split
            · congr 1; funext _; congr 1; funext _; congr 1; funext x; obtain ⟨r, n3⟩ := x; cases r <;> rfl
            · congr 1; funext _; congr 1; funext x; obtain ⟨r, n3⟩ := x; cases r <;> rfl
        refine Int.le_trans (Int.le_of_eq (km j)) (Int.le_trans ?_ (Int.le_of_eq (km i).symm))
        by_cases e : j = lo + n
        · by_cases e2 : i = j
          · subst e2; exact Int.le_refl _
          · have := he i hi (by lia); subst e; lia
        · have := he i hi (by lia); have := he j (by lia) (by lia); lia
    · rw [if_neg hgt]
      refine castS ?_ (descL (n := n) h0 hB hn (by lia) (fun i j hi hij hj => ?_) h)
      · congr 1
        funext _
        congr 1
        funext x
        obtain ⟨r, n2, q2⟩ := x
        cases r with
        | some r => rfl
        | none =>
          dsimp only
          split
          · congr 1; funext _; congr 1; funext _; congr 1; funext x; obtain ⟨r, n3⟩ := x; cases r <;> rfl
          · congr 1; funext _; congr 1; funext x; obtain ⟨r, n3⟩ := x; cases r <;> rfl
      by_cases e2 : i = j
      · subst e2; exact Int.le_refl _
      · have e3 : i = lo := by lia
        have e4 : j = lo + n := by lia
        have e5 : lo + n - 1 = lo := by lia
        rw [e5] at hlt
        subst e3; subst e4; lia

theorem binL {lo n ok : Nat} {st : SortSt} {Q : Bool → SortSt → Prop} (h0 : O.Keys a₀) (hB : SB O a₀ p st) (hn : lo + n ≤ a₀.size) (hok : ok ≤ n) (hs : Asc O (arrOf st) lo (lo + ok))
    (h : ∀ st', SB O a₀ p st' → (∀ k, k < lo → O.K (arrOf st') k = O.K (arrOf st) k) → Asc O (arrOf st') lo (lo + n) → Q true st') : wpS (model prog w) A E s (binarySort' lo n ok) Q st := by
  rw [binarySort'_eq]
  let I : Nat → Option Bool × Unit → SortSt → Prop := fun x c st' => c = (none, ()) ∧ SB O a₀ p st' ∧ (∀ k, k < lo → O.K (arrOf st') k = O.K (arrOf st) k) ∧ Asc O (arrOf st') lo (lo + min x n)
  refine wpS_bind (wpS_mono (wpS_forRange (I := I) (Q := fun c st' => I n c st') ?_ ?_ ⟨rfl, hB, fun _ _ => rfl, fun i j hi hij hj => ?_⟩) ?_)
  · rintro x c st' hx1 hx2 ⟨rfl, hB', hk, ha⟩
    rw [show min x n = x by lia] at ha
    let I2 : Nat → Option Bool × Nat × Nat → SortSt → Prop := fun y c st2 => st2 = st' ∧ E2 fun l r => A6 (c = (none, l, r)) (l ≤ r) (r ≤ x) (r - l ≤ x - y) ((∀ i, lo ≤ i → i < lo + l → O.K (arrOf st') i ≤ O.K (arrOf st') (lo + x))) ((∀ i, lo + r ≤ i → i < lo + x → O.K (arrOf st') (lo + x) < O.K (arrOf st') i))
    refine wpS_bind (wpS_mono (wpS_forRange (I := I2) (Q := fun c st2 => I2 x c st2) ?_ ?_ ⟨rfl, 0, x, rfl, by lia, by lia, by lia, fun i h1 h2 => by lia, fun i h1 h2 => by lia⟩) ?_)
    · rintro y c st2 _ hy ⟨e, l, r, rfl, h1, h2, h3, h4, h5⟩
      subst e
      dsimp only
      split
      · have : l = r := by lia
        subst this
        exact wpS_pure ⟨rfl, l, l, rfl, by lia, by lia, by lia, h4, h5⟩
      · refine wpS_bind (hB'.lt h0 (by lia) (by with_reducible exact qd17 (by assumption) (by assumption) (by assumption) (by assumption)) ?_)
        by_cases hc : O.K (arrOf st2) (lo + x) < O.K (arrOf st2) (lo + (l + r) / 2)
        · rw [decide_eq_true hc]
          refine wpS_pure ⟨rfl, l, (l + r) / 2, rfl, by lia, by lia, by with_reducible exact qd2 (by assumption) (by assumption) (by assumption), h4, fun i h6 h7 => ?_⟩
          have := ha (lo + (l + r) / 2) i (by with_reducible exact qe8) h6 h7
          lia
        · rw [decide_eq_false hc]
          refine wpS_pure ⟨rfl, (l + r) / 2 + 1, r, rfl, by lia, by lia, by with_reducible exact qd1 (by assumption) (by assumption) (by assumption), fun i h6 h7 => ?_, h5⟩
          have := ha i (lo + (l + r) / 2) h6 (by lia) (by with_reducible exact qd20 (by assumption) (by assumption))
          lia
    · rintro c st2 ⟨e, l, r, rfl, h1, h2, h3, h4, h5⟩
      exact ⟨e, l, r, rfl, h1, h2, by with_reducible exact qd13 (by assumption), h4, h5⟩
    · rintro c st2 ⟨e, l, r, rfl, h1, h2, h3, h4, h5⟩
      subst e
      have : l = r := by lia
      subst this
      dsimp only
      rw [moveDown'_eq]
      have hsz : lo + x < (arrOf st2).size := by rw [hB'.size]; lia
      refine wpS_bind (wpS_modify (wpS_pure ⟨rfl, hB'.setArr (bubble_perm _ _ _), fun k hk' => ?_, fun i j hi hij hj => ?_⟩))
      · show O.K (bubble (arrOf st2) (lo + x) (lo + x - (lo + l))) k = _
        rw [O.K_bubble hsz (by with_reducible exact qd11), if_neg (by with_reducible exact qd5 (by assumption) (by assumption)), if_neg (by with_reducible exact qd4 (by assumption) (by assumption))]
        exact hk k hk'
      · rw [show min (x + 1) n = x + 1 by lia] at hj
        show O.K (bubble (arrOf st2) (lo + x) (lo + x - (lo + l))) i ≤ O.K (bubble (arrOf st2) (lo + x) (lo + x - (lo + l))) j
        rw [O.K_bubble hsz (by with_reducible exact qd11), O.K_bubble hsz (by with_reducible exact qd11), show lo + x - (lo + x - (lo + l)) = lo + l by with_reducible exact qd6 (by assumption)]
        repeat' split
        all_goals first
          | (exfalso; lia)
          | exact Int.le_refl _
          | exact h4 _ (by (first | with_reducible exact qd16 (by assumption) | lia)) (by lia)
          | exact Int.le_of_lt (h5 _ (by with_reducible exact qd18 (by assumption) (by assumption) (by assumption)) (by with_reducible exact qd9 (by assumption) (by assumption) (by assumption) (by assumption)))
          | exact ha _ _ (by (first | with_reducible exact qd16 (by assumption) | lia)) (by (first | with_reducible exact qd3 (by assumption) | with_reducible exact qd7 (by assumption) (by assumption) (by assumption) (by assumption) | lia)) (by (first | with_reducible exact qd10 (by assumption) (by assumption) | with_reducible exact qd19 (by assumption) (by assumption) (by assumption) (by assumption)))
  · rintro c st' ⟨hc, hB', hk, ha⟩
    refine ⟨hc, hB', hk, ?_⟩
    rwa [show min (max (max ok 1) n) n = min n n by with_reducible exact qd12 (by assumption)] at ha
  · by_cases e : ok = 0
    · have : i = j := by with_reducible exact qd15 (by assumption) (by assumption) (by assumption) (by assumption)
      subst this; exact Int.le_refl _
    · exact hs i j hi hij (by with_reducible exact qd14 (by assumption) (by assumption) (by assumption))
  · rintro c st' ⟨rfl, hB', hk, ha⟩
    rw [show min n n = n by lia] at ha
    exact wpS_pure (h st' hB' hk ha)
end
end Mine
end

/-! TS2 -/
section
open PySem PyProof.Rows
set_option Elab.async false
set_option maxRecDepth 100000
set_option maxHeartbeats 4000000
set_option linter.unusedVariables false
namespace Mine

def gallop' : Bool → Keyed → Array Keyed → Nat → Nat → Nat → StateT SortSt Sem (Option Nat) := sortPriv% PySem.Builtin.gallop
local macro_rules | `(tactic| walk_at "gallop") => do
  let n := Lean.mkIdent (Lean.mkPrivateNameCore `PySem.Builtin.List.W1All `PySem.Builtin.gallop)
  `(tactic| delta $n)
section
variable {prog : Program} {w : World} {A : Around} {E : Value → Shared → Prop} {s : Shared} {O : SOrd prog w A s} {a₀ : Array Keyed} {p : Pend}
theorem lt_ok {st : SortSt} {x y : Keyed} {Q : Option Bool → SortSt → Prop} (hk : kindOf st = O.κ) (hx : O.I x) (hy : O.I y) (h : Q (some (decide (O.num x < O.num y))) st) : wpS (model prog w) A E s (lt' x y) Q st := by
  rw [lt'_eq]
  refine wpS_bind (wpS_get ?_)
  rw [hk]
  refine wpS_bind (wpS_lift (wpAny_attempt (O.lt _ _ _ hx hy ⟨rfl, ?_⟩)))
  exact wpS_pure h
theorem elem_ok {st : SortSt} {arr : Array Keyed} {i : Nat} {x : Keyed} {Q : Keyed → SortSt → Prop} (hx : arr[i]? = some x) (h : Q x st) : wpS (model prog w) A E s (elem' arr i) Q st := by
  rw [elem'_eq, hx]; exact wpS_pure h
def bey (O : SOrd prog w A s) (left : Bool) (key : Keyed) (arr : Array Keyed) (base i : Nat) : Bool := if left then decide (O.K arr (base + i) < O.num key) else !(decide (O.num key < O.K arr (base + i)))
theorem SOrd.K_at (O : SOrd prog w A s) {arr : Array Keyed} {i : Nat} {x : Keyed} (hx : arr[i]? = some x) : O.K arr i = O.num x := by unfold SOrd.K SOrd.num; rw [hx]
theorem narrow {st : SortSt} {bf : Nat → StateT SortSt Sem (Option Bool)} {n lo hi : Nat} {B : Nat → Bool} {Q : Option (Option Nat) × Nat × Nat → SortSt → Prop}
    (by_ : ∀ i, i < n → ∀ {Q : Option Bool → SortSt → Prop}, Q (some (B i)) st → wpS (model prog w) A E s (bf i) Q st)
    (mono : ∀ i j, i ≤ j → j < n → B j = true → B i = true) (anti : ∀ i j, i ≤ j → j < n → B i = false → B j = false) (h1 : lo ≤ hi) (h2 : hi ≤ n) (h3 : ∀ i, i < lo → B i = true) (h4 : ∀ i, hi ≤ i → i < n → B i = false)
    (h : ∀ r, r ≤ n → (∀ i, i < r → B i = true) → (∀ i, r ≤ i → i < n → B i = false) → Q (none, r, r) st) :
    wpS (model prog w) A E s (forIn [0:n] ((none, lo, hi) : Option (Option Nat) × Nat × Nat) fun x r =>
      if r.snd.fst ≥ r.snd.snd then pure (ForInStep.done (none, r.snd.fst, r.snd.snd))
      else do
        let x ← bf (r.snd.fst + (r.snd.snd - r.snd.fst) / 2)
        match x with
        | some more =>
          if more = true then pure (ForInStep.yield (none, r.snd.fst + (r.snd.snd - r.snd.fst) / 2 + 1, r.snd.snd))
          else pure (ForInStep.yield (none, r.snd.fst, r.snd.fst + (r.snd.snd - r.snd.fst) / 2))
        | x => pure (ForInStep.done (some none, r.snd.fst, r.snd.snd))) Q st := by
  refine wpS_forRange (I := fun x c st' => st' = st ∧ E2 fun lo hi => A6 (c = (none, lo, hi)) (lo ≤ hi) (hi ≤ n) (hi - lo ≤ n - x) ((∀ i, i < lo → B i = true)) ((∀ i, hi ≤ i → i < n → B i = false))) ?_ ?_ ⟨rfl, lo, hi, rfl, h1, h2, by with_reducible exact qe7 (by assumption), h3, h4⟩
  · rintro x c st' _ hx ⟨e, lo, hi, rfl, h1, h2, h5, h3, h4⟩
    subst e
    dsimp only
    split
    · have : lo = hi := by lia
      subst this
      exact wpS_pure (h lo h2 h3 h4)
    · refine wpS_bind (by_ _ (by with_reducible exact qe4 (by assumption) (by assumption)) ?_)
      cases q : B (lo + (hi - lo) / 2) with
      | true => exact wpS_pure ⟨rfl, _, _, rfl, by with_reducible exact qe6 (by assumption), h2, by with_reducible exact qe1 (by assumption) (by assumption) (by assumption), fun i hi' => mono i _ (by lia) (by with_reducible exact qe4 (by assumption) (by assumption)) q, h4⟩
      | false => exact wpS_pure ⟨rfl, _, _, rfl, by with_reducible exact qe8, by with_reducible exact qe5 (by assumption) (by assumption), by with_reducible exact qe2 (by assumption) (by assumption) (by assumption), h3, fun i hi' hn => anti _ i hi' hn q⟩
  · rintro c st' ⟨e, lo, hi, rfl, h1, h2, h5, h3, h4⟩
    subst e
    have : lo = hi := by with_reducible exact qe3 (by assumption) (by assumption)
    subst this
    exact h lo h2 h3 h4
theorem gallop_ok {st : SortSt} {left : Bool} {key : Keyed} {arr : Array Keyed} {base n hint : Nat} {Q : Option Nat → SortSt → Prop} (hk : kindOf st = O.κ) (hkey : O.I key) (hx : ∀ i, i < n → ∃ x, arr[base + i]? = some x ∧ O.I x)
    (hm : ∀ i j, i ≤ j → j < n → O.K arr (base + i) ≤ O.K arr (base + j)) (hh : hint < n) (h : ∀ r, r ≤ n → (∀ i, i < r → bey O left key arr base i = true) → (∀ i, r ≤ i → i < n → bey O left key arr base i = false) → Q (some r) st) :
    wpS (model prog w) A E s (gallop' left key arr base n hint) Q st := by
  have mono : ∀ i j, i ≤ j → j < n → bey O left key arr base j = true → bey O left key arr base i = true := fun i j hij hj e => by
    have := hm i j hij hj
    unfold bey at e ⊢
    cases left with
    | true => simp at e ⊢; lia
    | false => simp at e ⊢; lia
  have anti : ∀ i j, i ≤ j → j < n → bey O left key arr base i = false → bey O left key arr base j = false := fun i j hij hj e => by
    cases q : bey O left key arr base j with
    | false => rfl
    | true => rw [mono i j hij hj q] at e; cases e
  generalize hB : bey O left key arr base = B at h mono anti
  delta gallop'
  walk_at "gallop"
  extract_lets bf
  have by_ : ∀ i, i < n → ∀ {Q : Option Bool → SortSt → Prop}, Q (some (B i)) st → wpS (model prog w) A E s (bf i) Q st := fun i hi Q q => by
    obtain ⟨x, hx, hi⟩ := hx i hi
    rw [← hB] at q
    unfold bey at q
    rw [O.K_at hx] at q
    dsimp only [bf]
    refine wpS_bind (elem_ok hx ?_)
    cases left with
    | true => exact lt_ok hk hi hkey q
    | false => exact wpS_bind (lt_ok hk hkey hi (wpS_pure q))
  clear_value bf
  refine wpS_bind (by_ hint hh ?_)
  dsimp only
  have fin : ∀ lo hi, lo ≤ hi → hi ≤ n → (∀ i, i < lo → B i = true) → (∀ i, hi ≤ i → i < n → B i = false) → ∀ {f : Option (Option Nat) × Nat × Nat → StateT SortSt Sem (Option Nat)}, (∀ r, f (none, r, r) = pure (some r)) → wpS (model prog w) A E s ((forIn [0:n] ((none, lo, hi) : Option (Option Nat) × Nat × Nat) fun x r =>
      if r.snd.fst ≥ r.snd.snd then pure (ForInStep.done (none, r.snd.fst, r.snd.snd))
      else do
        let x ← bf (r.snd.fst + (r.snd.snd - r.snd.fst) / 2)
        match x with
        | some more =>
          if more = true then pure (ForInStep.yield (none, r.snd.fst + (r.snd.snd - r.snd.fst) / 2 + 1, r.snd.snd))
          else pure (ForInStep.yield (none, r.snd.fst, r.snd.fst + (r.snd.snd - r.snd.fst) / 2))
        | x => pure (ForInStep.done (some none, r.snd.fst, r.snd.snd))) >>= f) Q st := fun lo hi h1 h2 h3 h4 f hf =>
    wpS_bind (narrow by_ mono anti h1 h2 h3 h4 fun r h5 h6 h7 => by rw [hf]; exact wpS_pure (h r h5 h6 h7))
  cases hb : B hint with
  | true =>
    rw [if_pos rfl]
    refine wpS_bind (wpS_mono (wpS_forRange (I := fun x c st' => st' = st ∧ E2 fun l o => A5 (c = (none, l, o)) (x + 1 ≤ o) (l < o) (hint + l < n) (B (hint + l) = true))
      (Q := fun c st' => st' = st ∧ E2 fun l o => A5 (c = (none, l, o)) (l < o) (hint + l < n) (B (hint + l) = true) ((hint + o < n → B (hint + o) = false))) ?_ ?_ ⟨rfl, 0, 1, rfl, by lia, by lia, by lia, hb⟩) ?_)
    · rintro x c st' _ hx ⟨e, l, o, rfl, h1, h2, h3, h4⟩
      subst e
      dsimp only
      split
      · exact wpS_pure ⟨rfl, l, o, rfl, h2, h3, h4, fun _ => by lia⟩
      · refine wpS_bind (by_ _ (by with_reducible exact qf10 (by assumption) (by assumption)) ?_)
        cases q : B (hint + o) with
        | true => exact wpS_pure ⟨rfl, _, _, rfl, by lia, by lia, by with_reducible exact qf10 (by assumption) (by assumption), q⟩
        | false => exact wpS_pure ⟨rfl, _, _, rfl, h2, h3, h4, fun _ => q⟩
    · rintro c st' ⟨e, l, o, rfl, h1, h2, h3, h4⟩
      exact ⟨e, l, o, rfl, h2, h3, h4, fun _ => by lia⟩
    · rintro c st' ⟨e, l, o, rfl, h1, h2, h3, h4⟩
      subst e
      dsimp only
      refine fin _ _ (by with_reducible exact qf3 (by assumption) (by assumption)) (by with_reducible exact qf9 (by assumption)) (fun i hi => mono i (hint + l) (by lia) h2 h3) (fun i hi hn => anti (hint + o) i (by with_reducible exact qf2 (by assumption) (by assumption) (by assumption)) hn (h4 (by with_reducible exact qf1 (by assumption) (by assumption) (by assumption)))) fun r => rfl
  | false =>
    rw [if_neg (by decide)]
    refine wpS_bind (wpS_mono (wpS_forRange (I := fun x c st' => st' = st ∧ E2 fun l o => A5 (c = (none, l, o)) (x + 1 ≤ o) (l < o) (l ≤ hint) (B (hint - l) = false))
      (Q := fun c st' => st' = st ∧ E2 fun l o => A5 (c = (none, l, o)) (l < o) (l ≤ hint) (B (hint - l) = false) ((o ≤ hint → B (hint - o) = true))) ?_ ?_ ⟨rfl, 0, 1, rfl, by lia, by lia, by lia, hb⟩) ?_)
    · rintro x c st' _ hx ⟨e, l, o, rfl, h1, h2, h3, h4⟩
      subst e
      dsimp only
      split
      · exact wpS_pure ⟨rfl, l, o, rfl, h2, h3, h4, fun _ => by lia⟩
      · refine wpS_bind (by_ _ (by with_reducible exact qf4 (by assumption)) ?_)
        cases q : B (hint - o) with
        | false => exact wpS_pure ⟨rfl, _, _, rfl, by lia, by lia, by lia, q⟩
        | true => exact wpS_pure ⟨rfl, _, _, rfl, h2, h3, h4, fun _ => q⟩
    · rintro c st' ⟨e, l, o, rfl, h1, h2, h3, h4⟩
      exact ⟨e, l, o, rfl, h2, h3, h4, fun _ => by lia⟩
    · rintro c st' ⟨e, l, o, rfl, h1, h2, h3, h4⟩
      subst e
      dsimp only
      refine fin _ _ (by with_reducible exact qf8 (by assumption) (by assumption)) (by with_reducible exact qf5 (by assumption)) (fun i hi => mono i (hint - o) (by with_reducible exact qf6 (by assumption)) (by with_reducible exact qf4 (by assumption)) (h4 (by with_reducible exact qf7 (by assumption)))) (fun i hi hn => anti (hint - l) i (by lia) hn h3) fun r => rfl
end
end Mine
end

/-! TS3 -/
section
open PySem PyProof.Rows
set_option Elab.async false
set_option maxRecDepth 100000
set_option maxHeartbeats 4000000
set_option linter.unusedVariables false
namespace Mine

def mergeLo' : Array Keyed → Array Keyed → StateT SortSt Sem (Array Keyed) := sortPriv% PySem.Builtin.mergeLo
def setMinGallop' : Nat → StateT SortSt Sem Unit := sortPriv% PySem.Builtin.setMinGallop

section
variable {prog : Program} {w : World} {A : Around} {E : Value → Shared → Prop} {s : Shared}

/-- a merge under way: out is done, xs and ys are left -/
structure InvL (R : Keyed → Keyed → Prop) (T out xs ys : List Keyed) : Prop where
  perm : (out ++ xs ++ ys).Perm T
  so : out.Pairwise R
  sx : xs.Pairwise R
  sy : ys.Pairwise R
  ox : ∀ x ∈ out, ∀ y ∈ xs, R x y
  oy : ∀ x ∈ out, ∀ y ∈ ys, R x y
structure Good (R : Keyed → Keyed → Prop) (T r : List Keyed) : Prop where
  perm : r.Perm T
  srt : r.Pairwise R
section
variable {R : Keyed → Keyed → Prop} {T out xs ys : List Keyed}
theorem InvL.swap (h : InvL R T out xs ys) : InvL R T out ys xs := ⟨by
    refine List.Perm.trans ?_ h.perm
    rw [List.append_assoc, List.append_assoc]
    exact List.Perm.append_left _ List.perm_append_comm, h.so, h.sy, h.sx, h.oy, h.ox⟩
theorem InvL.take (h : InvL R T out xs ys) (k : Nat) (hk : ∀ x ∈ xs.take k, ∀ y ∈ ys, R x y) : InvL R T (out ++ xs.take k) (xs.drop k) ys := by
  have e := List.take_append_drop k xs
  have sx := h.sx
  rw [← e, List.pairwise_append] at sx
  refine ⟨?_, List.pairwise_append.mpr ⟨h.so, sx.1, fun x hx y hy => h.ox x hx y (List.mem_of_mem_take hy)⟩, sx.2.1, h.sy, fun x hx y hy => ?_, fun x hx y hy => ?_⟩
  · rw [List.append_assoc out, e]; exact h.perm
  · rcases List.mem_append.mp hx with hx | hx
    · exact h.ox x hx y (List.mem_of_mem_drop hy)
    · exact sx.2.2 x hx y hy
  · rcases List.mem_append.mp hx with hx | hx
    · exact h.oy x hx y hy
    · exact hk x hx y hy
theorem InvL.push {x : Keyed} (h : InvL R T out (x :: xs) ys) (hk : ∀ y ∈ ys, R x y) : InvL R T (out ++ [x]) xs ys := by
  have := h.take 1 (fun z hz y hy => by simp at hz; subst hz; exact hk y hy)
  simpa using this
theorem InvL.fin (h : InvL R T out xs []) : Good R T (out ++ xs) := ⟨by simpa using h.perm, List.pairwise_append.mpr ⟨h.so, h.sx, h.ox⟩⟩
theorem InvL.last (h : InvL R T out xs ys) (hl : ∀ x ∈ xs, ∀ y ∈ ys, R y x) : Good R T (out ++ ys ++ xs) := ⟨by simpa using h.swap.perm, by
  rw [List.append_assoc]
  refine List.pairwise_append.mpr ⟨h.so, List.pairwise_append.mpr ⟨h.sy, h.sx, fun y hy x hx => hl x hx y hy⟩, fun x hx y hy => ?_⟩
  rcases List.mem_append.mp hy with hy | hy
  · exact h.oy x hx y hy
  · exact h.ox x hx y hy⟩
end
section
variable {prog : Program} {w : World} {A : Around} {s : Shared} {O : SOrd prog w A s}
abbrev Up (O : SOrd prog w A s) (x y : Keyed) : Prop := O.num x ≤ O.num y
theorem mem_take_K {a : Array Keyed} {i k : Nat} {x : Keyed} (hx : x ∈ (a.toList.drop i).take k) : ∃ j, j < k ∧ i + j < a.size ∧ O.K a (i + j) = O.num x := by
  obtain ⟨j, hj⟩ := List.mem_iff_getElem?.mp hx
  rw [List.getElem?_take] at hj
  split at hj
  · rw [List.getElem?_drop] at hj
    have : i + j < a.toList.length := (List.getElem?_eq_some_iff.mp hj).1
    exact ⟨j, by assumption, by simpa using this, O.K_at (by simpa using hj)⟩
  · cases hj
theorem mem_drop_K {a : Array Keyed} {i : Nat} {x : Keyed} (hx : x ∈ a.toList.drop i) : ∃ j, i + j < a.size ∧ O.K a (i + j) = O.num x := by
  obtain ⟨j, hj⟩ := List.mem_iff_getElem?.mp hx
  rw [List.getElem?_drop] at hj
  have : i + j < a.toList.length := (List.getElem?_eq_some_iff.mp hj).1
  exact ⟨j, by simpa using this, O.K_at (by simpa using hj)⟩
def SK (O : SOrd prog w A s) (a : Array Keyed) : Prop := ∀ i j, i ≤ j → j < a.size → O.K a i ≤ O.K a j
theorem SK.srt {a : Array Keyed} (h : SK O a) : a.toList.Pairwise (Up O) := by
  rw [List.pairwise_iff_getElem]
  intro i j hi hj hij
  have := h i j (by lia) (by simpa using hj)
  rw [O.K_at (x := a.toList[i]) (by simp), O.K_at (x := a.toList[j]) (by simp)] at this
  exact this
/-- the merge in its arrays -/
def Mg (O : SOrd prog w A s) (a b out : Array Keyed) (ia ib : Nat) : Prop := InvL (Up O) (a.toList ++ b.toList) out.toList (a.toList.drop ia) (b.toList.drop ib)
section
variable {a b out : Array Keyed} {ia ib : Nat}
theorem drop_at {x : Keyed} (hx : a[ia]? = some x) : a.toList.drop ia = x :: a.toList.drop (ia + 1) := by
  have h : a.toList[ia]? = some x := by simpa using hx
  obtain ⟨h1, h2⟩ := List.getElem?_eq_some_iff.mp h
  rw [List.drop_eq_getElem_cons h1, h2]
theorem Mg.pushA {x : Keyed} (h : Mg O a b out ia ib) (hx : a[ia]? = some x) (hk : ∀ j, ib + j < b.size → O.num x ≤ O.K b (ib + j)) : Mg O a b (out.push x) (ia + 1) ib := by
  unfold Mg at h ⊢
  rw [drop_at hx] at h
  rw [Array.toList_push]
  exact h.push fun y hy => by obtain ⟨j, h1, h2⟩ := mem_drop_K (O := O) hy; have := hk j h1; show O.num x ≤ O.num y; lia
theorem Mg.pushB {x : Keyed} (h : Mg O a b out ia ib) (hx : b[ib]? = some x) (hk : ∀ j, ia + j < a.size → O.num x ≤ O.K a (ia + j)) : Mg O a b (out.push x) ia (ib + 1) := by
  unfold Mg at h ⊢
  rw [drop_at hx] at h
  rw [Array.toList_push]
  exact (h.swap.push fun y hy => by obtain ⟨j, h1, h2⟩ := mem_drop_K (O := O) hy; have := hk j h1; show O.num x ≤ O.num y; lia).swap
theorem ext_toList (a : Array Keyed) (i k : Nat) : (a.extract i (i + k)).toList = (a.toList.drop i).take k := by
  simp [Array.toList_extract, List.extract_eq_take_drop]
theorem ext_all (a : Array Keyed) (i : Nat) : (a.extract i a.size).toList = a.toList.drop i := by
  rw [Array.toList_extract, List.extract_eq_take_drop]
  exact List.take_of_length_le (by simp)
theorem Mg.appA (h : Mg O a b out ia ib) (k : Nat) {c : Int} (hk : ∀ j, j < k → ia + j < a.size → O.K a (ia + j) ≤ c) (hc : ∀ j, ib + j < b.size → c ≤ O.K b (ib + j)) : Mg O a b (out ++ a.extract ia (ia + k)) (ia + k) ib := by
  unfold Mg at h ⊢
  have := h.take k fun x hx y hy => by
    obtain ⟨j, h1, h2, h3⟩ := mem_take_K (O := O) hx
    obtain ⟨i, h4, h5⟩ := mem_drop_K (O := O) hy
    have := hk j h1 h2
    have := hc i h4
    show O.num x ≤ O.num y; lia
  rw [Array.toList_append, ext_toList]
  rwa [List.drop_drop] at this
theorem Mg.appB (h : Mg O a b out ia ib) (k : Nat) {c : Int} (hk : ∀ j, j < k → ib + j < b.size → O.K b (ib + j) ≤ c) (hc : ∀ j, ia + j < a.size → c ≤ O.K a (ia + j)) : Mg O a b (out ++ b.extract ib (ib + k)) ia (ib + k) := by
  unfold Mg at h ⊢
  have := h.swap.take k fun x hx y hy => by
    obtain ⟨j, h1, h2, h3⟩ := mem_take_K (O := O) hx
    obtain ⟨i, h4, h5⟩ := mem_drop_K (O := O) hy
    have := hk j h1 h2
    have := hc i h4
    show O.num x ≤ O.num y; lia
  rw [Array.toList_append, ext_toList]
  rw [List.drop_drop] at this
  exact this.swap
abbrev GoodM (O : SOrd prog w A s) (a b r : Array Keyed) : Prop := Good (Up O) (a.toList ++ b.toList) r.toList
theorem Mg.finB (h : Mg O a b out ia ib) (hb : b.size ≤ ib) : GoodM O a b (out ++ a.extract ia a.size ++ b.extract ib b.size) := by
  unfold Mg at h
  rw [GoodM, Array.toList_append, Array.toList_append, ext_all, ext_all]
  rw [List.drop_of_length_le (l := b.toList) (by simpa using hb)] at h ⊢
  rw [List.append_nil]; exact h.fin
theorem Mg.finA (h : Mg O a b out ia ib) (ha : a.size ≤ ia) : GoodM O a b (out ++ a.extract ia a.size ++ b.extract ib b.size) := by
  unfold Mg at h
  rw [GoodM, Array.toList_append, Array.toList_append, ext_all, ext_all]
  rw [List.drop_of_length_le (l := a.toList) (by simpa using ha)] at h ⊢
  rw [List.append_nil]; exact h.swap.fin
theorem Mg.lastA (h : Mg O a b out ia ib) (ha : ia + 1 = a.size) (hl : ∀ j, j < b.size → O.K b j ≤ O.K a (a.size - 1)) : GoodM O a b (out ++ b.extract ib b.size ++ a.extract ia a.size) := by
  unfold Mg at h
  rw [GoodM, Array.toList_append, Array.toList_append, ext_all, ext_all]
  refine h.last fun x hx y hy => ?_
  obtain ⟨i, h1, h2⟩ := mem_drop_K (O := O) hx
  obtain ⟨j, h3, h4⟩ := mem_drop_K (O := O) hy
  have := hl _ h3
  rw [show ia + i = a.size - 1 by lia] at h2
  show O.num y ≤ O.num x; lia
end
end
end
end Mine
end

/-! TS4 -/
section
open PySem PyProof.Rows
set_option Elab.async false
set_option maxRecDepth 100000
set_option maxHeartbeats 4000000
set_option linter.unusedVariables false
namespace Mine
local macro_rules | `(tactic| walk_at "mergeLo") => do
  let n := Lean.mkIdent (Lean.mkPrivateNameCore `PySem.Builtin.List.W1All `PySem.Builtin.mergeLo)
  `(tactic| delta $n)
local macro_rules | `(tactic| walk_at "setMinGallop") => do
  let n := Lean.mkIdent (Lean.mkPrivateNameCore `PySem.Builtin.List.W1All `PySem.Builtin.setMinGallop)
  `(tactic| delta $n)
section
variable {prog : Program} {w : World} {A : Around} {E : Value → Shared → Prop} {s : Shared} {O : SOrd prog w A s}
def Same (st st' : SortSt) : Prop := arrOf st' = arrOf st ∧ kindOf st' = kindOf st ∧ pendingOf st' = pendingOf st ∧ failedOf st' = failedOf st
theorem Same.refl (st : SortSt) : Same st st := ⟨rfl, rfl, rfl, rfl⟩
theorem Same.trans {a b c : SortSt} (h : Same a b) (k : Same b c) : Same a c := ⟨k.1.trans h.1, k.2.1.trans h.2.1, k.2.2.1.trans h.2.2.1, k.2.2.2.trans h.2.2.2⟩
theorem setMin_ok {st : SortSt} {g : Nat} {Q : Unit → SortSt → Prop} (h : ∀ st', Same st st' → Q () st') : wpS (model prog w) A E s (setMinGallop' g) Q st := by
  delta setMinGallop'
  walk_at "setMinGallop"
  exact wpS_modify (h _ ⟨rfl, rfl, rfl, rfl⟩)
def AllI (O : SOrd prog w A s) (a : Array Keyed) : Prop := ∀ x ∈ a.toList, O.I x
theorem AllI.at {a : Array Keyed} (h : AllI O a) {i : Nat} (hi : i < a.size) : ∃ x, a[i]? = some x ∧ O.I x ∧ O.K a i = O.num x := by
  have e : a[i]? = some a[i] := getElem?_pos _ i hi
  exact ⟨a[i], e, h _ (by simp), O.K_at e⟩
theorem bey_ff {key : Keyed} {arr : Array Keyed} {base i : Nat} (h : bey O false key arr base i = true) : O.K arr (base + i) ≤ O.num key := by
  unfold bey at h; simp at h; lia
theorem bey_fx {key : Keyed} {arr : Array Keyed} {base i : Nat} (h : bey O false key arr base i = false) : O.num key ≤ O.K arr (base + i) := by
  unfold bey at h; simp at h; lia
theorem bey_fx' {key : Keyed} {arr : Array Keyed} {base i : Nat} (h : bey O false key arr base i = false) : O.num key < O.K arr (base + i) := by
  unfold bey at h; simp at h; lia
theorem bey_tt {key : Keyed} {arr : Array Keyed} {base i : Nat} (h : bey O true key arr base i = true) : O.K arr (base + i) ≤ O.num key := by
  unfold bey at h; simp at h; lia
theorem bey_tt' {key : Keyed} {arr : Array Keyed} {base i : Nat} (h : bey O true key arr base i = true) : O.K arr (base + i) < O.num key := by
  unfold bey at h; simp at h; lia
theorem bey_tx {key : Keyed} {arr : Array Keyed} {base i : Nat} (h : bey O true key arr base i = false) : O.num key ≤ O.K arr (base + i) := by
  unfold bey at h; simp at h; lia

theorem iteS {α : Type} {c : Prop} [Decidable c] {m m' : StateT SortSt Sem α} {Q : α → SortSt → Prop} {st : SortSt} (ht : c → wpS (model prog w) A E s m Q st) (hf : ¬ c → wpS (model prog w) A E s m' Q st) : wpS (model prog w) A E s (if c then m else m') Q st := by
  by_cases h : c
  · rw [if_pos h]; exact ht h
  · rw [if_neg h]; exact hf h
theorem mergeLo_ok {a b : Array Keyed} {st : SortSt} {Q : Array Keyed → SortSt → Prop} (hk : kindOf st = O.κ) (ha : AllI O a) (hb : AllI O b) (sa : SK O a) (sb : SK O b) (ha0 : 0 < a.size) (hb0 : 0 < b.size)
    (h1 : O.K b 0 ≤ O.K a 0) (h2 : ∀ j, j < b.size → O.K b j ≤ O.K a (a.size - 1)) (h : ∀ r st', Same st st' → GoodM O a b r → Q r st') : wpS (model prog w) A E s (mergeLo' a b) Q st := by
  delta mergeLo'
  walk_at "mergeLo"
  refine wpS_bind (wpS_lift (wpAny_rule ⟨rfl, ?_⟩))
  obtain ⟨y0, hy0, iy0, ky0⟩ := hb.at hb0
  have M0 : Mg O a b #[] 0 0 := ⟨by simp, .nil, sa.srt, sb.srt, (fun x hx => nomatch hx), (fun x hx => nomatch hx)⟩
  have M1 : Mg O a b #[y0] 0 1 := M0.pushB hy0 fun j hj => by have := sa 0 (0 + j) (by with_reducible exact qe8) hj; lia
  refine wpS_bind (elem_ok hy0 ?_)
  refine iteS (fun e => wpS_pure (h _ _ (.refl _) (M1.finB (by simp at e; lia)))) fun e => ?_
  have e1 : 1 ≠ b.size := by simpa using e
  clear e
  refine iteS (fun e => wpS_pure (h _ _ (.refl _) (M1.lastA (by simpa using e) h2))) fun e => ?_
  have e2 : 0 + 1 ≠ a.size := by simpa using e
  clear e
  refine wpS_bind (wpS_get ?_)
  let I : Nat → Option (Array Keyed) × Array Keyed × Nat × Nat × Nat → SortSt → Prop := fun x c st' => Same st st' ∧ E4 fun out ia ib g => A5 (c = (none, out, ia, ib, g)) (Mg O a b out ia ib) (ia + 1 < a.size) (ib < b.size) (x ≤ ia + ib)
  let J : Option (Array Keyed) × Array Keyed × Nat × Nat × Nat → SortSt → Prop := fun c st' => Same st st' ∧ ∃ r, c.1 = some r ∧ GoodM O a b r
  refine wpS_bind (wpS_mono (wpS_forRange (I := I) (Q := J) ?_ ?_ ⟨.refl _, _, _, _, _, rfl, M1, by lia, by lia, by with_reducible exact qe8⟩) ?_)
  · rintro x c st1 _ hx ⟨k1, out, ia, ib, g, rfl, M, la, lb, hx1⟩
    dsimp (zeta := false) only
    let I2 : Nat → Option (Array Keyed) × Array Keyed × Nat × Nat × Nat × Nat → SortSt → Prop := fun y c st' => Same st st' ∧ E5 fun out ia ib ac bc => A5 (c = (none, out, ia, ib, ac, bc)) (Mg O a b out ia ib) (ia + 1 < a.size) (ib < b.size) (x ≤ ia + ib)
    let J2 : Option (Array Keyed) × Array Keyed × Nat × Nat × Nat × Nat → SortSt → Prop := fun c st' => I2 0 c st' ∨ (Same st st' ∧ ∃ r, c.1 = some r ∧ GoodM O a b r)
    refine wpS_bind (wpS_mono (wpS_forRange (I := I2) (Q := J2) ?_ ?_ ⟨k1, _, _, _, _, _, rfl, M, la, lb, hx1⟩) ?_)
    · clear M la lb hx1
      rintro y c st2 _ hy ⟨k2, out, ia, ib, ac, bc, rfl, M, la, lb, hx1⟩
      dsimp only
      obtain ⟨u, hu, iu, ku⟩ := hb.at lb
      obtain ⟨v, hv, iv, kv⟩ := ha.at (show ia < a.size by lia)
      refine wpS_bind (elem_ok hu (wpS_bind (elem_ok hv (wpS_bind (lt_ok (k2.2.1.trans hk) iu iv ?_)))))
      by_cases q : O.num u < O.num v
      · rw [decide_eq_true q]
        dsimp only
        rw [if_pos rfl]
        have M' := M.pushB hu fun j hj => by have := sa ia (ia + j) (by with_reducible exact qe8) hj; lia
        refine wpS_bind (elem_ok hu ?_)
        refine iteS (fun e => ?_) fun e => ?_
        · have e : ib + 1 = b.size := by simpa using e
          exact wpS_pure (.inr ⟨k2, _, rfl, M'.finB (by lia)⟩)
        · have e : ib + 1 ≠ b.size := by simpa using e
          refine iteS (fun _ => ?_) fun _ => ?_
          · exact wpS_pure (.inl ⟨k2, _, _, _, _, _, rfl, M', la, by lia, by lia⟩)
          · exact wpS_pure ⟨k2, _, _, _, _, _, rfl, M', la, by lia, by lia⟩
      · rw [decide_eq_false q]
        dsimp only
        rw [if_neg (by decide)]
        have M' := M.pushA hv fun j hj => by have := sb ib (ib + j) (by with_reducible exact qe8) hj; lia
        refine wpS_bind (elem_ok hv ?_)
        refine iteS (fun e => ?_) fun e => ?_
        · have e : ia + 1 + 1 = a.size := by simpa using e
          exact wpS_pure (.inr ⟨k2, _, rfl, M'.lastA e h2⟩)
        · have e : ia + 1 + 1 ≠ a.size := by simpa using e
          refine iteS (fun _ => ?_) fun _ => ?_
          · exact wpS_pure (.inl ⟨k2, _, _, _, _, _, rfl, M', by with_reducible exact qb12 (by assumption) (by assumption), by lia, by lia⟩)
          · exact wpS_pure ⟨k2, _, _, _, _, _, rfl, M', by with_reducible exact qb12 (by assumption) (by assumption), by lia, by lia⟩
    · exact fun c st' hI => .inl hI
    · clear M la lb hx1
      rintro c st2 (⟨k2, out, ia, ib, ac, bc, rfl, M, la, lb, hx1⟩ | ⟨k2, r, hr, hg⟩)
      · dsimp (zeta := false) only
        refine wpS_bind (wpS_lift (wpAny_rule ⟨rfl, ?_⟩))
        let I3 : Nat → Option (Array Keyed) × Array Keyed × Nat × Nat × Nat × Nat × Nat → SortSt → Prop := fun y c st' => Same st st' ∧ E6 fun out ia ib g ac bc => A5 (c = (none, out, ia, ib, g, ac, bc)) (Mg O a b out ia ib) (ia + 1 < a.size) (ib < b.size) (x + min y 1 ≤ ia + ib)
        let J3 : Option (Array Keyed) × Array Keyed × Nat × Nat × Nat × Nat × Nat → SortSt → Prop := fun c st' => I3 1 c st' ∨ (Same st st' ∧ ∃ r, c.1 = some r ∧ GoodM O a b r)
        refine wpS_bind (wpS_mono (wpS_forRange (I := I3) (Q := J3) ?_ ?_ ⟨k2, _, _, _, _, _, _, rfl, M, la, lb, by lia⟩) ?_)
        · clear M la lb hx1
          rintro y c st3 _ hy ⟨k3, out, ia, ib, g, ac, bc, rfl, M, la, lb, hx1⟩
          let Q3 : ForInStep (Option (Array Keyed) × Array Keyed × Nat × Nat × Nat × Nat × Nat) → SortSt → Prop := fun r st' => match r with | .done c' => J3 c' st' | .yield c' => I3 (y + 1) c' st'
          refine wpS_mono (Q := Q3) ?_ (fun r st' h => by cases r <;> exact h)
          extract_lets s0 out1 s1 ia1 s2 ib1 s3 g1 s4 ac1 bc1 ibp jp g'
          have hjp : ∀ g st4, Same st st4 → wpS (model prog w) A E s (jp () g) Q3 st4 := by
            intro g st4 k4
            dsimp (zeta := false) only [jp, ibp, ia1, ib1, out1, ac1, bc1, s0, s1, s2, s3, s4]
            clear g' jp bc1 ac1 s4 g1 s3
            refine wpS_bind (setMin_ok fun st5 k5 => ?_)
            replace k5 := k4.trans k5
            obtain ⟨u, hu, iu, ku⟩ := hb.at lb
            refine wpS_bind (elem_ok hu (wpS_bind (gallop_ok (k5.2.1.trans hk) iu (fun i hi => let ⟨x, h1, h2, _⟩ := ha.at (show ia + i < a.size by with_reducible exact qb1 (by assumption)); ⟨x, h1, h2⟩) (fun i j hij hj => sa _ _ (by with_reducible exact qa7 (by assumption)) (by with_reducible exact qb1 (by assumption))) (by with_reducible exact qb3 (by assumption)) fun k hk1 hk2 hk3 => ?_)))
            dsimp (zeta := false) only
            have bge : ∀ j, ia + k + j < a.size → O.num u ≤ O.K a (ia + k + j) := fun j hj => by have := bey_fx (hk3 (k + j) (by with_reducible exact qe8) (by with_reducible exact qb2 (by assumption))); rwa [← Nat.add_assoc] at this
            extract_lets acv jp2 out2 ia2
            have hj2 : ∀ out', Mg O a b out' (ia + k) ib → ia + k + 1 < a.size → wpS (model prog w) A E s (jp2 () out' (ia + k)) Q3 st5 := by
              intro out' M1 L1
              have X1 : x + min y 1 ≤ ia + k + ib := by lia
              dsimp (zeta := false) only [jp2, acv]
              clear ia2 out2 jp2
              refine wpS_bind (elem_ok hu ?_)
              have M2 := M1.pushB hu bge
              refine iteS (fun e => wpS_pure (.inr ⟨k5, _, rfl, M2.finB (by simp at e; lia)⟩)) fun e => ?_
              have e3 : ib + 1 ≠ b.size := by simpa using e
              clear e
              obtain ⟨v, hv, iv, kv⟩ := ha.at (Nat.lt_of_succ_lt L1)
              refine wpS_bind (elem_ok hv (wpS_bind (gallop_ok (k5.2.1.trans hk) iv (fun i hi => let ⟨x, h1, h2, _⟩ := hb.at (show ib + 1 + i < b.size by with_reducible exact qb1 (by assumption)); ⟨x, h1, h2⟩) (fun i j hij hj => sb _ _ (by with_reducible exact qa7 (by assumption)) (by with_reducible exact qb1 (by assumption))) (by with_reducible exact qb6 (by assumption) (by assumption)) fun k' hk1' hk2' hk3' => ?_)))
              dsimp (zeta := false) only
              have bgb : ∀ j, ib + 1 + k' + j < b.size → O.num v ≤ O.K b (ib + 1 + k' + j) := fun j hj => by have := bey_tx (hk3' (k' + j) (by with_reducible exact qe8) (by with_reducible exact qb2 (by assumption))); rwa [← Nat.add_assoc] at this
              extract_lets bcv iap jp3 out3 ib3
              have hj3 : ∀ out', Mg O a b out' (ia + k) (ib + 1 + k') → ib + 1 + k' < b.size → wpS (model prog w) A E s (jp3 () out' (ib + 1 + k')) Q3 st5 := by
                intro out' M3 L2
                dsimp (zeta := false) only [jp3, iap, bcv]
                clear ib3 out3 jp3
                refine wpS_bind (elem_ok hv ?_)
                have M4 := M3.pushA hv bgb
                refine iteS (fun e => wpS_pure (.inr ⟨k5, _, rfl, M4.lastA (by simpa using e) h2⟩)) fun e => ?_
                have e5 := e
                simp only [beq_iff_eq] at e5
                refine iteS (fun _ => ?_) fun _ => ?_
                · exact wpS_pure (.inl ⟨k5, _, _, _, _, _, _, rfl, M4, by with_reducible exact qb12 (by assumption) (by assumption), L2, by with_reducible exact qb10 (by assumption)⟩)
                · exact wpS_pure ⟨k5, _, _, _, _, _, _, rfl, M4, by with_reducible exact qb12 (by assumption) (by assumption), L2, by with_reducible exact qb9 (by assumption)⟩
              clear_value jp3
              refine iteS (fun hk0' => ?_) fun hk0' => ?_
              · have M3 := M2.appB k' (c := O.num v) (fun j h1 h2 => bey_tt (hk2' j h1)) (fun j hj => by rw [← kv]; exact sa _ _ (by with_reducible exact qe8) hj)
                refine iteS (fun e => wpS_pure (.inr ⟨k5, _, rfl, M3.finB (by simp at e; lia)⟩)) fun e => ?_
                exact hj3 _ M3 (by have e4 : ib + 1 + k' ≠ b.size := by simpa using e
                                   with_reducible exact qb7 (by assumption) (by assumption) (by assumption))
              · have hk0' : ib + 1 + k' = ib + 1 := by have hk0' : ¬ (k' > 0) := hk0'; lia
                have := hj3 _ (by rw [hk0']; exact M2) (by with_reducible exact qb13 (by assumption) (by assumption) (by assumption))
                rw [hk0'] at this
                exact this
            clear_value jp2
            refine iteS (fun hk0 => ?_) fun hk0 => ?_
            · have bub : ∀ j, ib + j < b.size → O.num u ≤ O.K b (ib + j) := fun j hj => by have := sb ib (ib + j) (by with_reducible exact qe8) hj; lia
              have M1 := M.appA k (c := O.num u) (fun j h1 h2 => bey_ff (hk2 j h1)) bub
              refine iteS (fun e => wpS_pure (.inr ⟨k5, _, rfl, M1.lastA (by simpa using e) h2⟩)) fun e => ?_
              refine iteS (fun e => wpS_pure (.inr ⟨k5, _, rfl, M1.finA (by simp at e; lia)⟩)) fun e' => ?_
              exact hj2 _ M1 (by have e1 : ia + k + 1 ≠ a.size := by simpa using e
                                 have e2 : ia + k ≠ a.size := by simpa using e'
                                 with_reducible exact qb8 (by assumption) (by assumption) (by assumption) (by assumption))
            · have hk0 : ia + k = ia := by have hk0 : ¬ (k > 0) := hk0; lia
              have := hj2 _ (by rw [hk0]; exact M) (by with_reducible exact qb14 (by assumption) (by assumption))
              rw [hk0] at this
              exact this
          clear_value jp
          exact iteS (fun _ => hjp _ _ k3) fun _ => hjp _ _ k3
        · rintro c st3 ⟨k3, out, ia, ib, g, ac, bc, rfl, M, la, lb, hx1⟩
          exact .inl ⟨k3, out, ia, ib, g, ac, bc, rfl, M, la, lb, by lia⟩
        · clear M la lb hx1
          rintro c st3 (⟨k3, out, ia, ib, g, ac, bc, rfl, M, la, lb, hx1⟩ | ⟨k3, r, hr, hg⟩)
          · dsimp only
            refine wpS_bind (setMin_ok fun st4 k4 => wpS_pure ⟨k3.trans k4, out, ia, ib, _, rfl, M, la, lb, by lia⟩)
          · obtain ⟨c1, c2⟩ := c
            subst hr
            exact wpS_pure ⟨k3, r, rfl, hg⟩
      · obtain ⟨c1, c2⟩ := c
        subst hr
        exact wpS_pure ⟨k2, r, rfl, hg⟩
  · rintro c st' ⟨k1, out, ia, ib, g, rfl, M, la, lb, hx1⟩
    lia
  · rintro ⟨c, c2⟩ st' ⟨k1, r, rfl, hg⟩
    exact wpS_pure (h _ _ k1 hg)
end
end Mine
end

/-! TS5 -/
section
open PySem PyProof.Rows
set_option Elab.async false
set_option maxRecDepth 100000
set_option maxHeartbeats 4000000
set_option linter.unusedVariables false
namespace Mine
def mergeHi' : Array Keyed → Array Keyed → StateT SortSt Sem (Array Keyed) := sortPriv% PySem.Builtin.mergeHi

section
variable {prog : Program} {w : World} {A : Around} {s : Shared} {O : SOrd prog w A s}
abbrev Dn (O : SOrd prog w A s) (x y : Keyed) : Prop := O.num y ≤ O.num x
def Mh (O : SOrd prog w A s) (a b out : Array Keyed) (na nb : Nat) : Prop := InvL (Dn O) (a.toList ++ b.toList) out.toList (a.toList.take na).reverse (b.toList.take nb).reverse
theorem mem_takeR_K {a : Array Keyed} {n : Nat} {x : Keyed} (hx : x ∈ (a.toList.take n).reverse) : ∃ j, j < n ∧ j < a.size ∧ O.K a j = O.num x := by
  obtain ⟨j, h1, h2, h3⟩ := mem_take_K (O := O) (a := a) (i := 0) (k := n) (by simpa using hx)
  exact ⟨j, h1, by lia, by rwa [Nat.zero_add] at h3⟩
theorem SK.dn {a : Array Keyed} (h : SK O a) (n : Nat) : ((a.toList.take n).reverse).Pairwise (Dn O) := by
  rw [List.pairwise_reverse]
  exact h.srt.sublist (List.take_sublist n a.toList)
theorem ext0 (a : Array Keyed) (n : Nat) : (a.extract 0 n).toList = a.toList.take n := by
  have := ext_toList a 0 n
  simpa using this
theorem ext_rev (a : Array Keyed) {i n : Nat} (h : i ≤ n) (hn : n ≤ a.size) : ((a.extract i n).reverse).toList = (a.toList.take n).reverse.take (n - i) := by
  rw [Array.toList_reverse]
  have e : (a.extract i n).toList = (a.toList.take n).drop i := by
    have := ext_toList a i (n - i)
    rw [show i + (n - i) = n by lia] at this
    rw [this, List.drop_take]
  rw [e, List.take_reverse]
  congr 2
  simp; lia
theorem drop_rev (a : Array Keyed) {i n : Nat} (h : i ≤ n) (hn : n ≤ a.size) : (a.toList.take n).reverse.drop (n - i) = (a.toList.take i).reverse := by
  rw [List.drop_reverse, List.take_take]
  congr 2
  simp; lia
theorem take_at {a : Array Keyed} {n : Nat} {x : Keyed} (h0 : 0 < n) (hx : a[n - 1]? = some x) : (a.toList.take n).reverse = x :: (a.toList.take (n - 1)).reverse := by
  obtain ⟨m, rfl⟩ : ∃ m, n = m + 1 := ⟨n - 1, by lia⟩
  rw [Nat.add_sub_cancel] at hx ⊢
  have : a.toList[m]? = some x := by simpa using hx
  rw [List.take_add_one, this]
  simp
section
variable {a b out : Array Keyed} {na nb : Nat}
theorem Mh.pushA {x : Keyed} (h : Mh O a b out na nb) (h0 : 0 < na) (hx : a[na - 1]? = some x) (hk : ∀ j, j < nb → j < b.size → O.K b j ≤ O.num x) : Mh O a b (out.push x) (na - 1) nb := by
  unfold Mh at h ⊢
  rw [take_at h0 hx] at h
  rw [Array.toList_push]
  exact h.push fun y hy => by obtain ⟨j, h1, h2, h3⟩ := mem_takeR_K (O := O) hy; have := hk j h1 h2; show O.num y ≤ O.num x; lia
theorem Mh.pushB {x : Keyed} (h : Mh O a b out na nb) (h0 : 0 < nb) (hx : b[nb - 1]? = some x) (hk : ∀ j, j < na → j < a.size → O.K a j ≤ O.num x) : Mh O a b (out.push x) na (nb - 1) := by
  unfold Mh at h ⊢
  rw [take_at h0 hx] at h
  rw [Array.toList_push]
  exact (h.swap.push fun y hy => by obtain ⟨j, h1, h2, h3⟩ := mem_takeR_K (O := O) hy; have := hk j h1 h2; show O.num y ≤ O.num x; lia).swap
theorem mem_seg {a : Array Keyed} {i n : Nat} (h : i ≤ n) (hn : n ≤ a.size) {x : Keyed} (hx : x ∈ (a.toList.take n).reverse.take (n - i)) : ∃ j, i ≤ j ∧ j < n ∧ O.K a j = O.num x := by
  rw [← ext_rev a h hn, Array.toList_reverse, List.mem_reverse] at hx
  have := ext_toList a i (n - i)
  rw [show i + (n - i) = n by lia] at this
  rw [this] at hx
  obtain ⟨j, h1, h2, h3⟩ := mem_take_K (O := O) hx
  exact ⟨i + j, by lia, by lia, h3⟩
theorem Mh.appA {i : Nat} (h : Mh O a b out na nb) (hi : i ≤ na) (hn : na ≤ a.size) {c : Int} (hk : ∀ j, i ≤ j → j < na → c ≤ O.K a j) (hc : ∀ j, j < nb → j < b.size → O.K b j ≤ c) : Mh O a b (out ++ (a.extract i na).reverse) i nb := by
  unfold Mh at h ⊢
  have := h.take (na - i) fun x hx y hy => by
    obtain ⟨j, h1, h2, h3⟩ := mem_seg (O := O) hi hn hx
    obtain ⟨l, h4, h5, h6⟩ := mem_takeR_K (O := O) hy
    have := hk j h1 h2
    have := hc l h4 h5
    show O.num y ≤ O.num x; lia
  rw [Array.toList_append, ext_rev a hi hn]
  rwa [drop_rev a hi hn] at this
theorem Mh.appB {i : Nat} (h : Mh O a b out na nb) (hi : i ≤ nb) (hn : nb ≤ b.size) {c : Int} (hk : ∀ j, i ≤ j → j < nb → c ≤ O.K b j) (hc : ∀ j, j < na → j < a.size → O.K a j ≤ c) : Mh O a b (out ++ (b.extract i nb).reverse) na i := by
  unfold Mh at h ⊢
  have := h.swap.take (nb - i) fun x hx y hy => by
    obtain ⟨j, h1, h2, h3⟩ := mem_seg (O := O) hi hn hx
    obtain ⟨l, h4, h5, h6⟩ := mem_takeR_K (O := O) hy
    have := hk j h1 h2
    have := hc l h4 h5
    show O.num y ≤ O.num x; lia
  rw [Array.toList_append, ext_rev b hi hn]
  rw [drop_rev b hi hn] at this
  exact this.swap
theorem Good.rev {T r : List Keyed} (h : Good (Dn O) T r) : Good (Up O) T r.reverse := ⟨(List.reverse_perm r).trans h.perm, by
  rw [List.pairwise_reverse]; exact h.srt⟩
theorem Mh.finA (h : Mh O a b out na nb) (h0 : na = 0) : GoodM O a b (a.extract 0 na ++ b.extract 0 nb ++ out.reverse) := by
  subst h0
  unfold Mh at h
  have := h.swap
  simp only [List.take_zero, List.reverse_nil] at this
  have := this.fin.rev
  rw [GoodM, Array.toList_append, Array.toList_append, ext0, ext0, Array.toList_reverse]
  simpa using this
theorem Mh.finB (h : Mh O a b out na nb) (h0 : nb = 0) : GoodM O a b (a.extract 0 na ++ b.extract 0 nb ++ out.reverse) := by
  subst h0
  unfold Mh at h
  simp only [List.take_zero, List.reverse_nil] at h
  have := h.fin.rev
  rw [GoodM, Array.toList_append, Array.toList_append, ext0, ext0, Array.toList_reverse]
  simpa using this
theorem Mh.lastB (h : Mh O a b out na nb) (h0 : nb = 1) (hl : ∀ j, j < a.size → O.K b 0 ≤ O.K a j) : GoodM O a b (b.extract 0 nb ++ a.extract 0 na ++ out.reverse) := by
  unfold Mh at h
  have := (h.swap.last fun x hx y hy => by
    obtain ⟨i, h1, h2, h3⟩ := mem_takeR_K (O := O) hx
    obtain ⟨j, h4, h5, h6⟩ := mem_takeR_K (O := O) hy
    have := hl j h5
    rw [show i = 0 by lia] at h3
    show O.num x ≤ O.num y; lia).rev
  rw [GoodM, Array.toList_append, Array.toList_append, ext0, ext0, Array.toList_reverse]
  simpa using this
end
end
end Mine
end

/-! TS6 -/
section
open PySem PyProof.Rows
set_option Elab.async false
set_option maxRecDepth 100000
set_option maxHeartbeats 4000000
set_option linter.unusedVariables false
namespace Mine
local macro_rules | `(tactic| walk_at "mergeHi") => do
  let n := Lean.mkIdent (Lean.mkPrivateNameCore `PySem.Builtin.List.W1All `PySem.Builtin.mergeHi)
  `(tactic| delta $n)
section
variable {prog : Program} {w : World} {A : Around} {E : Value → Shared → Prop} {s : Shared} {O : SOrd prog w A s}
theorem mergeHi_ok {a b : Array Keyed} {st : SortSt} {Q : Array Keyed → SortSt → Prop} (hk : kindOf st = O.κ) (ha : AllI O a) (hb : AllI O b) (sa : SK O a) (sb : SK O b) (ha0 : 0 < a.size) (hb0 : 0 < b.size)
    (h1 : O.K b 0 ≤ O.K a 0) (h2 : ∀ j, j < b.size → O.K b j ≤ O.K a (a.size - 1)) (h : ∀ r st', Same st st' → GoodM O a b r → Q r st') : wpS (model prog w) A E s (mergeHi' a b) Q st := by
  delta mergeHi'
  walk_at "mergeHi"
  refine wpS_bind (wpS_lift (wpAny_rule ⟨rfl, ?_⟩))
  have hl : ∀ j, j < a.size → O.K b 0 ≤ O.K a j := fun j hj => by have := sa 0 j (by lia) hj; lia
  obtain ⟨y0, hy0, iy0, ky0⟩ := ha.at (show a.size - 1 < a.size by with_reducible exact qa5 (by assumption))
  have M0 : Mh O a b #[] a.size b.size := ⟨by
    simp only [List.nil_append]
    refine List.Perm.append ?_ ?_
    · rw [List.take_of_length_le (by simp)]; exact List.reverse_perm _
    · rw [List.take_of_length_le (by simp)]; exact List.reverse_perm _, .nil, sa.dn _, sb.dn _, (fun x hx => nomatch hx), (fun x hx => nomatch hx)⟩
  have M1 : Mh O a b #[y0] (a.size - 1) b.size := M0.pushA ha0 hy0 fun j _ hj => by have := h2 j hj; lia
  refine wpS_bind (elem_ok hy0 ?_)
  refine iteS (fun e => wpS_pure (h _ _ (.refl _) (M1.finA (by simpa using e)))) fun e => ?_
  have e1 : a.size - 1 ≠ 0 := by simpa using e
  clear e
  refine iteS (fun e => wpS_pure (h _ _ (.refl _) (M1.lastB (by simpa using e) hl))) fun e => ?_
  have e2 : b.size ≠ 1 := by simpa using e
  clear e
  refine wpS_bind (wpS_get ?_)
  let I : Nat → Option (Array Keyed) × Nat × Nat × Array Keyed × Nat → SortSt → Prop := fun x c st' => Same st st' ∧ E4 fun out na nb g => A7 (c = (none, na, nb, out, g)) (Mh O a b out na nb) (0 < na) (1 < nb) (na ≤ a.size) (nb ≤ b.size) (x + na + nb < a.size + b.size)
  let J : Option (Array Keyed) × Nat × Nat × Array Keyed × Nat → SortSt → Prop := fun c st' => Same st st' ∧ ∃ r, c.1 = some r ∧ GoodM O a b r
  refine wpS_bind (wpS_mono (wpS_forRange (I := I) (Q := J) ?_ ?_ ⟨.refl _, _, _, _, _, rfl, M1, by lia, by lia, by with_reducible exact qd11, by lia, by with_reducible exact qa21 (by assumption)⟩) ?_)
  · rintro x c st1 _ hx ⟨k1, out, na, nb, g, rfl, M, la, lb, ua, ub, hx1⟩
    dsimp (zeta := false) only
    let I2 : Nat → Option (Array Keyed) × Nat × Nat × Array Keyed × Nat × Nat → SortSt → Prop := fun y c st' => Same st st' ∧ E5 fun out na nb ac bc => A7 (c = (none, na, nb, out, ac, bc)) (Mh O a b out na nb) (0 < na) (1 < nb) (na ≤ a.size) (nb ≤ b.size) (x + na + nb < a.size + b.size)
    let J2 : Option (Array Keyed) × Nat × Nat × Array Keyed × Nat × Nat → SortSt → Prop := fun c st' => I2 0 c st' ∨ (Same st st' ∧ ∃ r, c.1 = some r ∧ GoodM O a b r)
    refine wpS_bind (wpS_mono (wpS_forRange (I := I2) (Q := J2) ?_ ?_ ⟨k1, _, _, _, _, _, rfl, M, la, lb, ua, ub, hx1⟩) ?_)
    · clear M la lb ua ub hx1
      rintro y c st2 _ hy ⟨k2, out, na, nb, ac, bc, rfl, M, la, lb, ua, ub, hx1⟩
      dsimp only
      obtain ⟨u, hu, iu, ku⟩ := hb.at (show nb - 1 < b.size by with_reducible exact qa2 (by assumption) (by assumption))
      obtain ⟨v, hv, iv, kv⟩ := ha.at (show na - 1 < a.size by with_reducible exact qa1 (by assumption) (by assumption))
      refine wpS_bind (elem_ok hu (wpS_bind (elem_ok hv (wpS_bind (lt_ok (k2.2.1.trans hk) iu iv ?_)))))
      by_cases q : O.num u < O.num v
      · rw [decide_eq_true q]
        dsimp only
        rw [if_pos rfl]
        have M' := M.pushA la hv fun j hj hj' => by have := sb j (nb - 1) (by with_reducible exact qa4 (by assumption)) (by with_reducible exact qa2 (by assumption) (by assumption)); lia
        refine wpS_bind (elem_ok hv ?_)
        refine iteS (fun e => wpS_pure (.inr ⟨k2, _, rfl, M'.finA (by simpa using e)⟩)) fun e => ?_
        have e : na - 1 ≠ 0 := by simpa using e
        refine iteS (fun _ => ?_) fun _ => ?_
        · exact wpS_pure (.inl ⟨k2, _, _, _, _, _, rfl, M', by with_reducible exact qa24 (by assumption), lb, by with_reducible exact qa3 (by assumption), ub, by with_reducible exact qa18 (by assumption) (by assumption)⟩)
        · exact wpS_pure ⟨k2, _, _, _, _, _, rfl, M', by with_reducible exact qa24 (by assumption), lb, by with_reducible exact qa3 (by assumption), ub, by with_reducible exact qa18 (by assumption) (by assumption)⟩
      · rw [decide_eq_false q]
        dsimp only
        rw [if_neg (by decide)]
        have M' := M.pushB (by lia) hu fun j hj hj' => by have := sa j (na - 1) (by with_reducible exact qa4 (by assumption)) (by with_reducible exact qa1 (by assumption) (by assumption)); lia
        refine wpS_bind (elem_ok hu ?_)
        refine iteS (fun e => wpS_pure (.inr ⟨k2, _, rfl, M'.lastB (by simpa using e) hl⟩)) fun e => ?_
        have e : nb - 1 ≠ 1 := by simpa using e
        refine iteS (fun _ => ?_) fun _ => ?_
        · exact wpS_pure (.inl ⟨k2, _, _, _, _, _, rfl, M', la, by with_reducible exact qa19 (by assumption) (by assumption), ua, by with_reducible exact qa3 (by assumption), by with_reducible exact qa17 (by assumption) (by assumption)⟩)
        · exact wpS_pure ⟨k2, _, _, _, _, _, rfl, M', la, by with_reducible exact qa19 (by assumption) (by assumption), ua, by with_reducible exact qa3 (by assumption), by with_reducible exact qa17 (by assumption) (by assumption)⟩
    · exact fun c st' hI => .inl hI
    · clear M la lb ua ub hx1
      rintro c st2 (⟨k2, out, na, nb, ac, bc, rfl, M, la, lb, ua, ub, hx1⟩ | ⟨k2, r, hr, hg⟩)
      · dsimp (zeta := false) only
        refine wpS_bind (wpS_lift (wpAny_rule ⟨rfl, ?_⟩))
        let I3 : Nat → Option (Array Keyed) × Nat × Nat × Array Keyed × Nat × Nat × Nat → SortSt → Prop := fun y c st' => Same st st' ∧ E6 fun out na nb g ac bc => A7 (c = (none, na, nb, out, g, ac, bc)) (Mh O a b out na nb) (0 < na) (1 < nb) (na ≤ a.size) (nb ≤ b.size) (x + min y 1 + na + nb < a.size + b.size)
        let J3 : Option (Array Keyed) × Nat × Nat × Array Keyed × Nat × Nat × Nat → SortSt → Prop := fun c st' => I3 1 c st' ∨ (Same st st' ∧ ∃ r, c.1 = some r ∧ GoodM O a b r)
        refine wpS_bind (wpS_mono (wpS_forRange (I := I3) (Q := J3) ?_ ?_ ⟨k2, _, _, _, _, _, _, rfl, M, la, lb, ua, ub, by lia⟩) ?_)
        · clear M la lb ua ub hx1
          rintro y c st3 _ hy ⟨k3, out, na, nb, g, ac, bc, rfl, M, la, lb, ua, ub, hx1⟩
          let Q3 : ForInStep (Option (Array Keyed) × Nat × Nat × Array Keyed × Nat × Nat × Nat) → SortSt → Prop := fun r st' => match r with | .done c' => J3 c' st' | .yield c' => I3 (y + 1) c' st'
          refine wpS_mono (Q := Q3) ?_ (fun r st' h => by cases r <;> exact h)
          extract_lets s0 na1 s1 nb1 s2 out1 s3 g1 s4 ac1 bc1 nbm jp g'
          have hjp : ∀ g st4, Same st st4 → wpS (model prog w) A E s (jp () g) Q3 st4 := by
            intro g st4 k4
            dsimp (zeta := false) only [jp, nbm, na1, nb1, out1, ac1, bc1, s0, s1, s2, s3, s4]
            clear g' jp bc1 ac1 s4 g1 s3 out1
            refine wpS_bind (setMin_ok fun st5 k5 => ?_)
            replace k5 := k4.trans k5
            obtain ⟨u, hu, iu, ku⟩ := hb.at (show nb - 1 < b.size by with_reducible exact qa2 (by assumption) (by assumption))
            refine wpS_bind (elem_ok hu (wpS_bind (gallop_ok (k5.2.1.trans hk) iu (fun i hi => let ⟨x, h1, h2, _⟩ := ha.at (show 0 + i < a.size by with_reducible exact qa8 (by assumption) (by assumption)); ⟨x, h1, h2⟩) (fun i j hij hj => sa _ _ (by with_reducible exact qa7 (by assumption)) (by with_reducible exact qa8 (by assumption) (by assumption))) (by with_reducible exact qa5 (by assumption)) fun k hk1 hk2 hk3 => ?_)))
            dsimp (zeta := false) only
            have blo : ∀ j, j < k → j < a.size → O.K a j ≤ O.num u := fun j hj _ => by have := bey_ff (hk2 j hj); rwa [Nat.zero_add] at this
            extract_lets kk acv jp2 out2 na2
            have hj2 : ∀ out', Mh O a b out' k nb → 0 < k → wpS (model prog w) A E s (jp2 () k out') Q3 st5 := by
              intro out' M1 L1
              have U1 : k ≤ a.size := by lia
              have X1 : x + min y 1 + k + nb < a.size + b.size := by with_reducible exact qa23 (by assumption) (by assumption)
              dsimp (zeta := false) only [jp2, acv, kk]
              clear na2 out2 jp2
              refine wpS_bind (elem_ok hu ?_)
              have M2 := M1.pushB (by lia) hu blo
              refine iteS (fun e => wpS_pure (.inr ⟨k5, _, rfl, M2.lastB (by simpa using e) hl⟩)) fun e => ?_
              have e3 : nb - 1 ≠ 1 := by simpa using e
              clear e
              obtain ⟨v, hv, iv, kv⟩ := ha.at (Nat.lt_of_lt_of_le (Nat.sub_lt L1 Nat.one_pos) U1)
              refine wpS_bind (elem_ok hv (wpS_bind (gallop_ok (k5.2.1.trans hk) iv (fun i hi => let ⟨x, h1, h2, _⟩ := hb.at (show 0 + i < b.size by with_reducible exact qa9 (by assumption) (by assumption)); ⟨x, h1, h2⟩) (fun i j hij hj => sb _ _ (by with_reducible exact qa7 (by assumption)) (by with_reducible exact qa9 (by assumption) (by assumption))) (by with_reducible exact qa6 (by assumption)) fun k' hk1' hk2' hk3' => ?_)))
              dsimp (zeta := false) only
              have clo : ∀ j, j < k' → j < b.size → O.K b j ≤ O.num v := fun j hj _ => by have := bey_tt (hk2' j hj); rwa [Nat.zero_add] at this
              extract_lets kk' bcv nam jp3 out3 nb3
              have hj3 : ∀ out', Mh O a b out' k k' → 1 < k' → wpS (model prog w) A E s (jp3 () k' out') Q3 st5 := by
                intro out' M3 L2
                have U2 : k' ≤ b.size := by with_reducible exact qa10 (by assumption) (by assumption)
                dsimp (zeta := false) only [jp3, nam, bcv, kk']
                clear nb3 out3 jp3
                refine wpS_bind (elem_ok hv ?_)
                have M4 := M3.pushA L1 hv clo
                refine iteS (fun e => wpS_pure (.inr ⟨k5, _, rfl, M4.finA (by simpa using e)⟩)) fun e => ?_
                have e6 := e
                simp only [beq_iff_eq] at e6
                refine iteS (fun _ => ?_) fun _ => ?_
                · exact wpS_pure (.inl ⟨k5, _, _, _, _, _, _, rfl, M4, by with_reducible exact qa24 (by assumption), L2, by with_reducible exact qa3 (by assumption), U2, by lia⟩)
                · exact wpS_pure ⟨k5, _, _, _, _, _, _, rfl, M4, by with_reducible exact qa24 (by assumption), L2, by with_reducible exact qa3 (by assumption), U2, by lia⟩
              clear_value jp3
              refine iteS (fun hk0' => ?_) fun hk0' => ?_
              · have cge : ∀ j, k' ≤ j → j < nb - 1 → O.num v ≤ O.K b j := fun j hj hj' => by have := bey_tx (hk3' j hj hj'); rwa [Nat.zero_add] at this
                have M3 := M2.appB hk1' (by with_reducible exact qa3 (by assumption)) (c := O.num v) cge (fun j hj hj' => by rw [← kv]; exact sa _ _ (by with_reducible exact qa4 (by assumption)) (by with_reducible exact qa1 (by assumption) (by assumption)))
                refine iteS (fun e => wpS_pure (.inr ⟨k5, _, rfl, M3.lastB (by simpa using e) hl⟩)) fun e => ?_
                refine iteS (fun e => wpS_pure (.inr ⟨k5, _, rfl, M3.finB (by simpa using e)⟩)) fun e' => ?_
                exact hj3 _ M3 (by have e4 : k' ≠ 1 := by simpa using e
                                   have e5 : k' ≠ 0 := by simpa using e'
                                   lia)
              · have hk0' : k' = nb - 1 := by have hk0' : ¬ (nb - 1 - k' > 0) := hk0'; with_reducible exact qa13 (by assumption) (by assumption)
                rw [← hk0']
                exact hj3 _ (by rw [hk0']; exact M2) (by with_reducible exact qa14 (by assumption) (by assumption) (by assumption))
            clear_value jp2
            refine iteS (fun hk0 => ?_) fun hk0 => ?_
            · have bge : ∀ j, k ≤ j → j < na → O.num u ≤ O.K a j := fun j hj hj' => by have := bey_fx (hk3 j hj hj'); rwa [Nat.zero_add] at this
              have bub : ∀ j, j < nb → j < b.size → O.K b j ≤ O.num u := fun j hj _ => by have := sb j (nb - 1) (by with_reducible exact qa4 (by assumption)) (by with_reducible exact qa2 (by assumption) (by assumption)); lia
              have M1 := M.appA hk1 ua (c := O.num u) bge bub
              refine iteS (fun e => wpS_pure (.inr ⟨k5, _, rfl, M1.finA (by simpa using e)⟩)) fun e => ?_
              exact hj2 _ M1 (by have e1 : k ≠ 0 := by simpa using e
                                 with_reducible exact qa24 (by assumption))
            · have hk0 : k = na := by have hk0 : ¬ (na - k > 0) := hk0; with_reducible exact qa20 (by assumption) (by assumption)
              rw [← hk0]
              exact hj2 _ (by rw [hk0]; exact M) (by lia)
          clear_value jp
          exact iteS (fun _ => hjp _ _ k3) fun _ => hjp _ _ k3
        · rintro c st3 ⟨k3, out, na, nb, g, ac, bc, rfl, M, la, lb, ua, ub, hx1⟩
          exact .inl ⟨k3, out, na, nb, g, ac, bc, rfl, M, la, lb, ua, ub, by lia⟩
        · clear M la lb ua ub hx1
          rintro c st3 (⟨k3, out, na, nb, g, ac, bc, rfl, M, la, lb, ua, ub, hx1⟩ | ⟨k3, r, hr, hg⟩)
          · dsimp only
            refine wpS_bind (setMin_ok fun st4 k4 => wpS_pure ⟨k3.trans k4, out, na, nb, _, rfl, M, la, lb, ua, ub, by lia⟩)
          · obtain ⟨c1, c2⟩ := c
            subst hr
            exact wpS_pure ⟨k3, r, rfl, hg⟩
      · obtain ⟨c1, c2⟩ := c
        subst hr
        exact wpS_pure ⟨k2, r, rfl, hg⟩
  · rintro c st' ⟨k1, out, na, nb, g, rfl, M, la, lb, ua, ub, hx1⟩
    lia
  · rintro ⟨c, c2⟩ st' ⟨k1, r, rfl, hg⟩
    exact wpS_pure (h _ _ k1 hg)
end
end Mine
end

/-! TS7 -/
section
open PySem PyProof.Rows
set_option Elab.async false
set_option maxRecDepth 100000
set_option maxHeartbeats 4000000
set_option linter.unusedVariables false
namespace Mine
local macro_rules | `(tactic| walk_at "mergeAt") => do
  let n := Lean.mkIdent (Lean.mkPrivateNameCore `PySem.Builtin.List.W1All `PySem.Builtin.mergeAt)
  `(tactic| delta $n)
theorem segs : ∀ (m : List Keyed) (k sa : Nat) (arr : Array Keyed) (i : Nat), sa + k + m.length ≤ arr.size →
    ((m.zipIdx k).foldl (fun a (p, j) => a.setIfInBounds (sa + j) p) arr)[i]? = if sa + k ≤ i ∧ i < sa + k + m.length then m[i - (sa + k)]? else arr[i]?
  | [], k, sa, arr, i, h => by
    rw [if_neg (by simp)]; rfl
  | x :: m, k, sa, arr, i, h => by
    rw [List.zipIdx_cons, List.foldl_cons, segs m (k + 1) sa _ i (by simp at h ⊢; lia)]
    simp only [List.length_cons] at h ⊢
    by_cases e : i = sa + k
    · subst e
      rw [if_neg (by lia), if_pos (by lia)]
      simp [show sa + k < arr.size by lia]
    · by_cases e2 : sa + (k + 1) ≤ i ∧ i < sa + (k + 1) + m.length
      · rw [if_pos e2, if_pos (by lia)]
        rw [show i - (sa + k) = (i - (sa + (k + 1))) + 1 by lia, List.getElem?_cons_succ]
      · rw [if_neg e2, if_neg (by lia)]
        simp [show ¬ sa + k = i by lia]
theorem seg_list {m : List Keyed} {sa : Nat} {arr : Array Keyed} (h : sa + m.length ≤ arr.size) :
    (m.zipIdx.foldl (fun a (p, j) => a.setIfInBounds (sa + j) p) arr).toList = arr.toList.take sa ++ m ++ arr.toList.drop (sa + m.length) := by
  apply List.ext_getElem?
  intro i
  have := segs m 0 sa arr i (by lia)
  rw [Array.getElem?_toList, this, Nat.add_zero]
  by_cases h1 : i < sa
  · rw [if_neg (by lia), List.append_assoc, List.getElem?_append_left (by simp; lia), List.getElem?_take_of_lt h1]; simp
  · by_cases h2 : i < sa + m.length
    · rw [if_pos (by lia), List.append_assoc, List.getElem?_append_right (by simp; lia), List.getElem?_append_left (by simp; lia)]
      congr 1
      simp; lia
    · rw [if_neg (by lia), List.append_assoc, List.getElem?_append_right (by simp; lia), List.getElem?_append_right (by simp; lia), List.getElem?_drop]
      simp
      congr 1; lia
section
variable {prog : Program} {w : World} {A : Around} {E : Value → Shared → Prop} {s : Shared} {O : SOrd prog w A s} {a₀ : Array Keyed}
theorem wpS_set {σ : Type} {M : Model} {x st : σ} {Q : PUnit → σ → Prop} (h : Q ⟨⟩ x) : wpS M A E s (set x : StateT σ Sem PUnit) Q st := by
  unfold wpS; rw [StateT.run_set]; exact wpAny_pure ⟨rfl, h⟩
theorem SK_of {a : Array Keyed} (h : a.toList.Pairwise (Up O)) : SK O a := fun i j hij hj => by
  by_cases e : i = j
  · subst e; exact Int.le_refl _
  · have := List.pairwise_iff_getElem.mp h i j (by simp; lia) (by simpa using hj) (by lia)
    rw [O.K_at (x := a[i]'(by lia)) (by simp), O.K_at (x := a[j]) (by simp)]
    simpa using this
theorem SOrd.K_ext (O : SOrd prog w A s) {arr : Array Keyed} {i n j : Nat} (h : j < n - i) (hn : n ≤ arr.size) : O.K (arr.extract i n) j = O.K arr (i + j) := by
  apply O.K_congr
  rw [Array.getElem?_extract]
  rw [if_pos (by lia)]

theorem er1 (x y z : Nat × Nat × Nat) : (#[x, y].setIfInBounds 0 z).eraseIdxIfInBounds (0 + 1) = #[z] := by
  apply Array.ext'
  simp [Array.eraseIdxIfInBounds]
theorem mergeAt_ok {n1 n2 pw q : Nat} {st : SortSt} {Q : Bool → SortSt → Prop} (h0 : O.Keys a₀) (hB : SB O a₀ #[(0, n1, pw), (n1, n2, q)] st) (hn : n1 + n2 = a₀.size) (h1 : 0 < n1) (h2 : 0 < n2) (hs1 : Asc O (arrOf st) 0 n1) (hs2 : Asc O (arrOf st) n1 (n1 + n2))
    (h : ∀ st', SB O a₀ #[(0, n1 + n2, pw)] st' → SK O (arrOf st') → Q true st') : wpS (model prog w) A E s (mergeAt' 0) Q st := by
  obtain ⟨κ0, arr, pend, gl, fl⟩ := st
  have hp : pend = #[(0, n1, pw), (n1, n2, q)] := hB.pend
  subst hp
  replace hs1 : Asc O arr 0 n1 := hs1
  replace hs2 : Asc O arr n1 (n1 + n2) := hs2
  have hsz : arr.size = a₀.size := hB.size
  have allI : AllI O arr := fun x hx => h0 x ((Array.perm_iff_toList_perm.mp hB.perm).mem_iff.mp hx)
  obtain ⟨u, hu, iu, ku⟩ := allI.at (show n1 < arr.size by lia)
  delta mergeAt'
  walk_at "mergeAt"
  refine wpS_bind (wpS_get ?_)
  dsimp only
  refine wpS_bind (wpS_set ?_)
  have B1 : SB O a₀ #[(0, n1 + n2, pw)] ((sortPriv% PySem.Builtin.SortState.mk) κ0 arr ((#[(0, n1, pw), (n1, n2, q)].setIfInBounds 0 (0, n1 + n2, pw)).eraseIdxIfInBounds (0 + 1)) gl fl) := ⟨hB.perm, hB.kind, hB.failed, er1 ..⟩
  generalize hst1 : (sortPriv% PySem.Builtin.SortState.mk) κ0 arr ((#[(0, n1, pw), (n1, n2, q)].setIfInBounds 0 (0, n1 + n2, pw)).eraseIdxIfInBounds (0 + 1)) gl fl = st1 at B1
  have ar : arrOf st1 = arr := by rw [← hst1]
  refine wpS_bind (elem_ok hu (wpS_bind (gallop_ok B1.kind iu (fun i hi => let ⟨x, h1, h2, _⟩ := allI.at (show 0 + i < arr.size by lia); ⟨x, h1, h2⟩) (fun i j hij hj => hs1 _ _ (by with_reducible exact qe8) (by with_reducible exact qa7 (by assumption)) (by lia)) h1 fun k hk1 hk2 hk3 => ?_)))
  dsimp only
  have lo1 : ∀ j, j < k → O.K arr j ≤ O.K arr n1 := fun j hj => by have := bey_ff (hk2 j hj); rw [Nat.zero_add] at this; lia
  have hi1 : ∀ j, k ≤ j → j < n1 → O.K arr n1 ≤ O.K arr j := fun j hj hj' => by have := bey_fx (hk3 j hj hj'); rw [Nat.zero_add] at this; lia
  refine iteS (fun e => ?_) fun e => ?_
  · have e : n1 - k = 0 := by simpa using e
    refine wpS_pure (h _ B1 ?_)
    rw [ar]
    intro i j hij hj
    by_cases c1 : j < n1
    · exact hs1 i j (by lia) hij c1
    · by_cases c2 : n1 ≤ i
      · exact hs2 i j c2 hij (by lia)
      · have := lo1 i (by with_reducible exact qc20 (by assumption) (by assumption))
        have := hs2 n1 j (by lia) (by lia) (by lia)
        lia
  have e : n1 - k ≠ 0 := by simpa using e
  obtain ⟨v, hv, iv, kv⟩ := allI.at (show 0 + k + (n1 - k) - 1 < arr.size by with_reducible exact qc3 (by assumption) (by assumption) (by assumption) (by assumption))
  have ev : 0 + k + (n1 - k) - 1 = n1 - 1 := by with_reducible exact qc1 (by assumption)
  refine wpS_bind (elem_ok hv (wpS_bind (gallop_ok B1.kind iv (fun i hi => let ⟨x, h1, h2, _⟩ := allI.at (show n1 + i < arr.size by lia); ⟨x, h1, h2⟩) (fun i j hij hj => hs2 _ _ (by with_reducible exact qe8) (by with_reducible exact qa7 (by assumption)) (by lia)) (by with_reducible exact qa5 (by assumption)) fun nb hn1 hn2 hn3 => ?_)))
  dsimp only
  rw [ev] at kv
  have lo2 : ∀ j, n1 ≤ j → j < n1 + nb → O.K arr j ≤ O.K arr (n1 - 1) := fun j hj hj' => by have := bey_tt (hn2 (j - n1) (by with_reducible exact qc21 (by assumption) (by assumption))); rw [show n1 + (j - n1) = j by with_reducible exact qc22 (by assumption)] at this; lia
  have hi2 : ∀ j, n1 + nb ≤ j → j < arr.size → O.K arr (n1 - 1) ≤ O.K arr j := fun j hj hj' => by have := bey_tx (hn3 (j - n1) (by with_reducible exact qc24 (by assumption)) (by lia)); rw [show n1 + (j - n1) = j by with_reducible exact qc23 (by assumption)] at this; lia
  refine iteS (fun e => ?_) fun e2 => ?_
  · have e : nb = 0 := by simpa using e
    refine wpS_pure (h _ B1 ?_)
    rw [ar]
    intro i j hij hj
    by_cases c1 : j < n1
    · exact hs1 i j (by lia) hij c1
    · by_cases c2 : n1 ≤ i
      · exact hs2 i j c2 hij (by lia)
      · have := hi2 j (by lia) hj
        have := hs1 i (n1 - 1) (by lia) (by with_reducible exact qc25 (by assumption)) (by with_reducible exact qa5 (by assumption))
        lia
  have e2 : nb ≠ 0 := by simpa using e2
  rw [Nat.zero_add]
  have sx : (arr.extract k n1).size = n1 - k := by simp; with_reducible exact qc9 (by assumption) (by assumption)
  have sy : (arr.extract n1 (n1 + nb)).size = nb := by simp; with_reducible exact qc8 (by assumption) (by assumption) (by assumption)
  have Kx : ∀ j, j < n1 - k → O.K (arr.extract k n1) j = O.K arr (k + j) := fun j hj => O.K_ext hj (by lia)
  have Ky : ∀ j, j < nb → O.K (arr.extract n1 (n1 + nb)) j = O.K arr (n1 + j) := fun j hj => O.K_ext (by with_reducible exact qc19 (by assumption)) (by lia)
  have Ix : AllI O (arr.extract k n1) := fun x hx => allI x (by
    have := ext_toList arr k (n1 - k)
    rw [show k + (n1 - k) = n1 by with_reducible exact qc18 (by assumption)] at this
    rw [this] at hx
    exact List.mem_of_mem_drop (List.mem_of_mem_take hx))
  have Iy : AllI O (arr.extract n1 (n1 + nb)) := fun x hx => allI x (by
    rw [ext_toList] at hx
    exact List.mem_of_mem_drop (List.mem_of_mem_take hx))
  have Sx : SK O (arr.extract k n1) := fun i j hij hj => by
    rw [sx] at hj
    rw [Kx i (by lia), Kx j hj]; exact hs1 _ _ (by lia) (by with_reducible exact qa7 (by assumption)) (by with_reducible exact qb1 (by assumption))
  have Sy : SK O (arr.extract n1 (n1 + nb)) := fun i j hij hj => by
    rw [sy] at hj
    rw [Ky i (by lia), Ky j hj]; exact hs2 _ _ (by with_reducible exact qe8) (by with_reducible exact qa7 (by assumption)) (by lia)
  have c1 : O.K (arr.extract n1 (n1 + nb)) 0 ≤ O.K (arr.extract k n1) 0 := by
    rw [Ky 0 (by with_reducible exact qa24 (by assumption)), Kx 0 (by with_reducible exact qa24 (by assumption))]; exact hi1 _ (by with_reducible exact qe8) (by with_reducible exact qc16 (by assumption) (by assumption))
  have c2 : ∀ j, j < (arr.extract n1 (n1 + nb)).size → O.K (arr.extract n1 (n1 + nb)) j ≤ O.K (arr.extract k n1) ((arr.extract k n1).size - 1) := fun j hj => by
    rw [sy] at hj
    rw [Ky j hj, sx, Kx _ (by with_reducible exact qc7 (by assumption)), show k + (n1 - k - 1) = n1 - 1 by with_reducible exact qc2 (by assumption)]; exact lo2 _ (by with_reducible exact qe8) (by lia)
  have exy : arr.toList = arr.toList.take k ++ ((arr.extract k n1).toList ++ (arr.extract n1 (n1 + nb)).toList) ++ arr.toList.drop (n1 + nb) := by
    have e1 := ext_toList arr k (n1 - k)
    rw [show k + (n1 - k) = n1 by with_reducible exact qc18 (by assumption)] at e1
    rw [e1, ext_toList]
    have t1 := List.take_append_drop k arr.toList
    have t2 := List.take_append_drop (n1 - k) (arr.toList.drop k)
    have t3 := List.take_append_drop nb (arr.toList.drop n1)
    rw [List.drop_drop] at t2 t3
    rw [show k + (n1 - k) = n1 by with_reducible exact qc18 (by assumption)] at t2
    rw [List.append_assoc, List.append_assoc, t3, t2, t1]
  have fin : ∀ r st2, Same st1 st2 → GoodM O (arr.extract k n1) (arr.extract n1 (n1 + nb)) r → Q true (SortSt.mk' (kindOf st2) (r.toList.zipIdx.foldl (fun a (x : Keyed × Nat) => a.setIfInBounds (k + x.snd) x.fst) (arrOf st2)) (pendingOf st2) (gallopOf st2) (failedOf st2)) ∧ failedOf st2 = none := by
    intro r st2 sm g
    have f2 : failedOf st2 = none := sm.2.2.2.trans B1.failed
    refine ⟨h _ ⟨?_, sm.2.1.trans B1.kind, f2, sm.2.2.1.trans B1.pend⟩ ?_, f2⟩
    all_goals
      have er : r.toList.length = (n1 - k) + nb := by
        have := g.perm.length_eq
        rw [List.length_append, Array.length_toList, Array.length_toList, Array.length_toList, sx, sy] at this
        simpa using this
      have el := seg_list (m := r.toList) (sa := k) (arr := arrOf st2) (by rw [sm.1, ar, er]; with_reducible exact qc12 (by assumption) (by assumption) (by assumption) (by assumption))
      rw [sm.1, ar, er, show k + (n1 - k + nb) = n1 + nb by with_reducible exact qc17 (by assumption)] at el
    · refine Array.Perm.trans ?_ B1.perm
      rw [Array.perm_iff_toList_perm]
      show ((r.toList.zipIdx.foldl (fun a (x : Keyed × Nat) => a.setIfInBounds (k + x.snd) x.fst) (arrOf st2))).toList.Perm _
      rw [sm.1, ar, el]
      refine List.Perm.trans ?_ (List.Perm.of_eq exy.symm)
      exact List.Perm.append_right _ (List.Perm.append_left _ g.perm)
    · refine SK_of ?_
      show ((r.toList.zipIdx.foldl (fun a (x : Keyed × Nat) => a.setIfInBounds (k + x.snd) x.fst) (arrOf st2))).toList.Pairwise (Up O)
      rw [sm.1, ar, el]
      have inr : ∀ z ∈ r.toList, ∃ j, k ≤ j ∧ j < n1 + nb ∧ O.K arr j = O.num z := fun z hz => by
        rcases List.mem_append.mp (g.perm.mem_iff.mp hz) with hz | hz
        · have e1 := ext_toList arr k (n1 - k)
          rw [show k + (n1 - k) = n1 by with_reducible exact qc18 (by assumption)] at e1
          rw [e1] at hz
          obtain ⟨j, a1, a2, a3⟩ := mem_take_K (O := O) hz
          exact ⟨k + j, by with_reducible exact qe8, by with_reducible exact qc13 (by assumption), a3⟩
        · rw [ext_toList] at hz
          obtain ⟨j, a1, a2, a3⟩ := mem_take_K (O := O) hz
          exact ⟨n1 + j, by lia, by lia, a3⟩
      have P1 : (arr.toList.take k).Pairwise (Up O) := by
        rw [← ext0]
        refine SK.srt fun i j hij hj => ?_
        have hj : j < k := by simp at hj; with_reducible exact qc10 (by assumption)
        rw [O.K_ext (by lia) (by lia), O.K_ext (by lia) (by lia)]
        exact hs1 _ _ (by with_reducible exact qe8) (by with_reducible exact qa7 (by assumption)) (by with_reducible exact qa8 (by assumption) (by assumption))
      have P3 : (arr.toList.drop (n1 + nb)).Pairwise (Up O) := by
        rw [← ext_all]
        refine SK.srt fun i j hij hj => ?_
        have hj : j < arr.size - (n1 + nb) := by simpa using hj
        rw [O.K_ext (by lia) (by lia), O.K_ext (by lia) (by lia)]
        exact hs2 _ _ (by lia) (by with_reducible exact qa7 (by assumption)) (by lia)
      refine List.pairwise_append.mpr ⟨List.pairwise_append.mpr ⟨P1, g.srt, fun x hx y hy => ?_⟩, P3, fun x hx y hy => ?_⟩
      · obtain ⟨i, a1, a2, a3⟩ := mem_take_K (O := O) (i := 0) (by simpa using hx)
        rw [Nat.zero_add] at a3
        obtain ⟨j, b1, b2, b3⟩ := inr y hy
        show O.num x ≤ O.num y
        have := lo1 i a1
        by_cases cj : j < n1
        · have := hs1 i j (by lia) (by lia) cj; lia
        · have := hs2 n1 j (by lia) (by lia) (by lia); lia
      · obtain ⟨j, b2, b3⟩ := mem_drop_K (O := O) hy
        show O.num x ≤ O.num y
        have := hi2 (n1 + nb + j) (by with_reducible exact qe8) b2
        rcases List.mem_append.mp hx with hx | hx
        · obtain ⟨i, a1, a2, a3⟩ := mem_take_K (O := O) (i := 0) (by simpa using hx)
          rw [Nat.zero_add] at a3
          have := hs1 i (n1 - 1) (by lia) (by with_reducible exact qc4 (by assumption) (by assumption)) (by with_reducible exact qa5 (by assumption))
          lia
        · obtain ⟨i, a1, a2, a3⟩ := inr x hx
          by_cases ci : i < n1
          · have := hs1 i (n1 - 1) (by lia) (by with_reducible exact qa4 (by assumption)) (by with_reducible exact qa5 (by assumption)); lia
          · have := hs2 i (n1 + nb + j) (by lia) (by lia) (by lia); lia
  refine iteS (fun _ => ?_) fun _ => ?_
  · refine wpS_bind (mergeLo_ok B1.kind Ix Iy Sx Sy (by lia) (by lia) c1 c2 fun r st2 sm g => ?_)
    obtain ⟨q1, q2⟩ := fin r st2 sm g
    refine wpS_bind (wpS_modify (wpS_bind (wpS_get (wpS_pure ?_))))
    show Q (failedOf st2).isNone _
    rw [show (failedOf st2).isNone = true by rw [q2]; rfl]; exact q1
  · refine wpS_bind (mergeHi_ok B1.kind Ix Iy Sx Sy (by lia) (by lia) c1 c2 fun r st2 sm g => ?_)
    obtain ⟨q1, q2⟩ := fin r st2 sm g
    refine wpS_bind (wpS_modify (wpS_bind (wpS_get (wpS_pure ?_))))
    show Q (failedOf st2).isNone _
    rw [show (failedOf st2).isNone = true by rw [q2]; rfl]; exact q1
end
end Mine
end

/-! TS8 -/
section
open PySem PyProof.Rows
set_option Elab.async false
set_option maxRecDepth 100000
set_option maxHeartbeats 4000000
set_option linter.unusedVariables false
namespace Mine
section
variable {prog : Program} {w : World} {A : Around} {E : Value → Shared → Prop} {s : Shared} {O : SOrd prog w A s} {a₀ : Array Keyed}
theorem minrun_half {n : Nat} (h0 : 2 ≤ n) (h : n < 128) : n - minRun' n n 0 ≤ minRun' n n 0 ∧ 1 ≤ minRun' n n 0 := by
  obtain ⟨f, hf⟩ : ∃ f, n = f + 1 + 1 := ⟨n - 2, by lia⟩
  have e : minRun' n n 0 = if n < 64 then n else n / 2 + n % 2 := by
    have : ∀ m, m = n → minRun' (f + 1 + 1) m 0 = if m < 64 then m else m / 2 + m % 2 := by
      intro m hm
      rw [minRun'_succ]
      split
      · lia
      · rw [minRun'_succ, if_pos (by lia)]
        lia
    have := this n rfl
    rwa [← hf] at this
  rw [e]
  split <;> lia
theorem pm1 (n1 n2 lo pw : Nat) : ((#[(0, n1, 0)] : Pend).modify ((#[(0, n1, 0)] : Pend).size - 1) fun x => (x.fst, x.2.fst, pw)).push (lo, n2, 0) = #[(0, n1, pw), (lo, n2, 0)] := by
  apply Array.ext'
  simp
theorem sortRuns_ok {st : SortSt} {Q : Unit → SortSt → Prop} (h0 : O.Keys a₀) (hB : SB O a₀ #[] st) (h2 : 2 ≤ a₀.size) (h128 : a₀.size < 128)
    (h : ∀ st', (arrOf st').Perm a₀ → failedOf st' = none → Asc O (arrOf st') 0 a₀.size → Q () st') : wpS (model prog w) A E s sortRuns' Q st := by
  rw [sortRuns'_eq]
  refine wpS_bind (wpS_get ?_)
  dsimp only
  obtain ⟨hm, hm1⟩ := minrun_half h2 h128
  rw [hB.size]
  generalize hN : a₀.size = N at *
  generalize minRun' N N 0 = mr at *
  -- how far the runs have come
  let D : Nat → SortSt → Prop := fun x st' =>
    (x = 0 ∧ SB O a₀ #[] st') ∨ ∃ n1, 0 < n1 ∧ n1 ≤ N ∧ ((x = n1 ∧ SB O a₀ #[(0, n1, 0)] st' ∧ Asc O (arrOf st') 0 n1 ∧ (N ≤ n1 ∨ N - n1 ≤ mr)) ∨ (x = N ∧ ∃ n2 pw, 0 < n2 ∧ n1 + n2 = N ∧ SB O a₀ #[(0, n1, pw), (n1, n2, 0)] st' ∧ Asc O (arrOf st') 0 n1 ∧ Asc O (arrOf st') n1 (n1 + n2)))
  let I : Nat → Option Unit × Nat → SortSt → Prop := fun x c st' => ∃ lo, c = (none, lo) ∧ D lo st' ∧ (x ≤ lo ∨ N ≤ lo)
  refine wpS_bind (wpS_mono (wpS_forRange (I := I) (Q := fun c st' => I N c st') ?_ ?_ ⟨0, rfl, .inl ⟨rfl, hB⟩, by lia⟩) ?_)
  · rintro x c st1 _ hx ⟨lo, rfl, hD, hlo⟩
    dsimp only
    refine iteS (fun e => wpS_pure ⟨lo, rfl, hD, .inr e⟩) fun e => ?_
    have e : lo < N := by lia
    rcases hD with ⟨rfl, hB⟩ | ⟨n1, p1, p2, ⟨rfl, hB, ha, hr⟩ | ⟨rfl, _⟩⟩
    · have push1 : ∀ n st', SB O a₀ #[] st' → 0 < n → n ≤ N → Asc O (arrOf st') 0 n → (N ≤ n ∨ N - n ≤ mr) → I (x + 1) (none, 0 + n) (setPending st' ((pendingOf st').push (0, n, 0))) := fun n st' hB' b1 b2 ha' hr => by
        refine ⟨0 + n, rfl, .inr ⟨n, b1, b2, .inl ⟨Nat.zero_add _, ⟨hB'.perm, hB'.kind, hB'.failed, ?_⟩, ha', hr⟩⟩, by lia⟩
        show (pendingOf st').push (0, n, 0) = _
        rw [hB'.pend]; rfl
      refine wpS_bind (countL h0 hB (by lia) (by with_reducible exact qg7 (by assumption)) fun m st2 hB2 hk2 c1 c2 ha2 => ?_)
      dsimp only
      rw [Nat.zero_add] at ha2
      refine iteS (fun e2 => ?_) fun e2 => ?_
      · refine wpS_bind (wpS_lift (wpAny_rule ⟨rfl, ?_⟩))
        refine wpS_bind (binL h0 hB2 (by lia) (by with_reducible exact qg1 (by assumption) (by assumption)) (by rwa [Nat.zero_add]) fun st3 hB3 hk3 ha3 => ?_)
        rw [Nat.zero_add] at ha3
        rw [if_neg (by decide)]
        refine wpS_bind (wpS_get ?_)
        have hb : (pendingOf st3).back? = none := by rw [hB3.pend]; rfl
        rw [hb]
        dsimp only
        exact wpS_bind (wpS_modify (wpS_pure (push1 _ _ hB3 (by lia) (by with_reducible exact qg4) ha3 (by with_reducible exact qg2 (by assumption) (by assumption)))))
      · refine wpS_bind (wpS_get ?_)
        have hb : (pendingOf st2).back? = none := by rw [hB2.pend]; rfl
        rw [hb]
        dsimp only
        exact wpS_bind (wpS_modify (wpS_pure (push1 _ _ hB2 (by lia) (by lia) ha2 (by with_reducible exact qg3 (by assumption) (by assumption)))))
    · -- the second run
      rename_i n1
      have fin2 : ∀ st' pw, SB O a₀ #[(0, lo, 0)] st' → Asc O (arrOf st') 0 lo → Asc O (arrOf st') lo (lo + (N - lo)) →
          I (x + 1) (none, lo + (N - lo)) (setPending (setPending st' ((pendingOf st').modify ((pendingOf st').size - 1) fun x => (x.fst, x.2.fst, pw))) ((pendingOf (setPending st' ((pendingOf st').modify ((pendingOf st').size - 1) fun x => (x.fst, x.2.fst, pw)))).push (lo, N - lo, 0))) := fun st' pw hB' a1 a2 => by
        refine ⟨_, rfl, .inr ⟨lo, p1, p2, .inr ⟨by with_reducible exact qc22 (by assumption), N - lo, pw, by with_reducible exact qg5 (by assumption), by with_reducible exact qc22 (by assumption), ⟨hB'.perm, hB'.kind, hB'.failed, ?_⟩, a1, a2⟩⟩, by lia⟩
        show ((pendingOf st').modify ((pendingOf st').size - 1) fun x => (x.fst, x.2.fst, pw)).push (lo, N - lo, 0) = _
        rw [hB'.pend]; exact pm1 ..
      have inner : ∀ st' pw (k : Option Unit × Unit → StateT SortSt Sem (ForInStep (Option Unit × Nat))) (Q' : ForInStep (Option Unit × Nat) → SortSt → Prop), SB O a₀ #[(0, lo, 0)] st' → wpS (model prog w) A E s (k (none, ())) Q' st' →
          wpS (model prog w) A E s ((forIn [0:N] ((none, ()) : Option Unit × Unit) fun x r => do
                let g ← get
                match (if (pendingOf g).size > 1 then (pendingOf g)[(pendingOf g).size - 2]? else none) with
                  | some (fst, fst_1, older) =>
                    if older ≤ pw then pure (ForInStep.done (none, ()))
                    else do
                      let z ← mergeAt' ((pendingOf g).size - 2)
                      if (!z) = true then pure (ForInStep.done (some (), ()))
                        else pure (ForInStep.yield (none, ()))
                  | x => pure (ForInStep.done (none, ()))) >>= k) Q' st' := fun st' pw k Q' hB' hq => by
        refine wpS_bind (wpS_mono (wpS_forRange (I := fun _ c st'' => st'' = st' ∧ c = (none, ())) (Q := fun c st'' => st'' = st' ∧ c = (none, ())) ?_ (fun _ _ hh => hh) ⟨rfl, rfl⟩) ?_)
        · rintro y c st'' _ _ ⟨e1, rfl⟩
          subst e1
          refine wpS_bind (wpS_get ?_)
          rw [if_neg (by rw [hB'.pend]; exact (by decide : ¬ (1 > 1)))]
          exact wpS_pure ⟨rfl, rfl⟩
        · rintro c st'' ⟨e1, rfl⟩
          subst e1
          exact hq
      refine wpS_bind (countL h0 hB (by lia) (by with_reducible exact qg7 (by assumption)) fun m st2 hB2 hk2 c1 c2 ha2 => ?_)
      dsimp only
      have a1 : Asc O (arrOf st2) 0 lo := fun i j h3 h4 h5 => by rw [hk2 i (by lia), hk2 j h5]; exact ha i j h3 h4 h5
      refine iteS (fun e2 => ?_) fun e2 => ?_
      · refine wpS_bind (wpS_lift (wpAny_rule ⟨rfl, ?_⟩))
        refine wpS_bind (binL h0 hB2 (by lia) (by lia) ha2 fun st3 hB3 hk3 ha3 => ?_)
        have a3 : Asc O (arrOf st3) 0 lo := fun i j h3 h4 h5 => by rw [hk3 i (by lia), hk3 j h5]; exact a1 i j h3 h4 h5
        rw [show min (N - lo) mr = N - lo by lia] at ha3 ⊢
        rw [if_neg (by decide)]
        refine wpS_bind (wpS_get ?_)
        have hb : (pendingOf st3).back? = some (0, lo, 0) := by rw [hB3.pend]; rfl
        rw [hb]
        dsimp only
        refine inner st3 _ _ _ hB3 ?_
        dsimp only
        exact wpS_bind (wpS_modify (wpS_bind (wpS_modify (wpS_pure (fin2 st3 _ hB3 a3 ha3)))))
      · have em : m = N - lo := by lia
        subst em
        refine wpS_bind (wpS_get ?_)
        have hb : (pendingOf st2).back? = some (0, lo, 0) := by rw [hB2.pend]; rfl
        rw [hb]
        dsimp only
        refine inner st2 _ _ _ hB2 ?_
        dsimp only
        exact wpS_bind (wpS_modify (wpS_bind (wpS_modify (wpS_pure (fin2 st2 _ hB2 a1 ha2)))))
    · lia
  · rintro c st' ⟨lo, rfl, hD, hlo⟩
    exact ⟨lo, rfl, hD, by lia⟩
  · rintro c st' ⟨lo, rfl, hD, hlo⟩
    dsimp only
    have hlo : N ≤ lo := by lia
    have fin : ∀ st', SB O a₀ #[(0, N, 0)] st' → Asc O (arrOf st') 0 N → True := fun _ _ _ => trivial
    let J : Nat → Option Unit × Unit → SortSt → Prop := fun x c st' => c = (none, ()) ∧ ((∃ p, (pendingOf st').size ≤ 1 ∧ SB O a₀ p st' ∧ Asc O (arrOf st') 0 N) ∨
      (x = 0 ∧ ∃ n1 n2 pw, 0 < n1 ∧ 0 < n2 ∧ n1 + n2 = N ∧ SB O a₀ #[(0, n1, pw), (n1, n2, 0)] st' ∧ Asc O (arrOf st') 0 n1 ∧ Asc O (arrOf st') n1 (n1 + n2)))
    have J0 : J 0 (none, ()) st' := by
      refine ⟨rfl, ?_⟩
      rcases hD with ⟨rfl, hB⟩ | ⟨n1, p1, p2, ⟨rfl, hB, ha, hr⟩ | ⟨rfl, n2, pw, q1, q2, hB, ha, hb⟩⟩
      · lia
      · have : lo = N := by lia
        subst this
        exact .inl ⟨_, by rw [hB.pend]; exact Nat.le_refl 1, hB, ha⟩
      · exact .inr ⟨rfl, n1, n2, pw, p1, q1, q2, hB, ha, hb⟩
    refine wpS_bind (wpS_mono (wpS_forRange (I := J) (Q := fun c st' => J 1 c st') ?_ ?_ J0) ?_)
    · rintro x c st1 _ hx ⟨rfl, hJ⟩
      refine wpS_bind (wpS_get ?_)
      rcases hJ with ⟨p, h1, hB', hs⟩ | ⟨rfl, n1, n2, pw, p1, q1, q2, hB', ha, hb⟩
      · rw [if_pos h1]
        exact wpS_pure ⟨rfl, .inl ⟨p, h1, hB', hs⟩⟩
      · have hp := hB'.pend
        rw [if_neg (by rw [hp]; exact (by decide : ¬ (2 ≤ 1)))]
        rw [hp]
        refine wpS_bind (mergeAt_ok h0 hB' (by lia) p1 q1 ha hb fun st2 hB2 hs2 => ?_)
        rw [if_neg (by decide)]
        refine wpS_pure ⟨rfl, .inl ⟨_, by rw [hB2.pend]; exact Nat.le_refl 1, hB2, fun i j _ hij hj => hs2 i j hij (by rw [hB2.size]; lia)⟩⟩
    · rintro c st1 ⟨hc, hJ⟩
      refine ⟨hc, ?_⟩
      rcases hJ with hJ | ⟨h1, _⟩
      · exact .inl hJ
      · lia
    · rintro c st1 ⟨rfl, hJ⟩
      rcases hJ with ⟨p, h1, hB', hs⟩ | ⟨h1, _⟩
      · exact wpS_pure (h _ hB'.perm hB'.failed hs)
      · lia
end
end Mine
end

/-! TS9 -/
section
open PySem PySem.W PyProof.Rows
set_option Elab.async false
set_option maxRecDepth 100000
set_option maxHeartbeats 4000000
set_option linter.unusedVariables false
namespace Mine
section
variable {prog : Program} {w : World} {A : Around} {E : Value → Shared → Prop} {s : Shared}

/-- a sort's order: its kind, the keys' ints, and what is known of the keys, in every state that keeps all but the list -/
structure SKey (prog : Program) (w : World) (A : Around) (l : Addr) (s : Shared) where
  κ : SortKind
  kf : Value → Int
  V : Value → Prop
  lt : ∀ s' : Shared, (∀ c x, c ≠ l → s.heap.get? c = some x → s'.heap.get? c = some x) → ∀ (E : Value → Shared → Prop) (x y : Value) {Q : Bool → Shared → Prop}, V x → V y → Q (decide (kf x < kf y)) s' → wpAny (model prog w) A (keyLt' κ x y) Q E s'
  kind : ∀ s' : Shared, (∀ c x, c ≠ l → s.heap.get? c = some x → s'.heap.get? c = some x) → ∀ (E : Value → Shared → Prop) (vs : List Value) {Q : SortKind → Shared → Prop}, 2 ≤ vs.length → (∀ v ∈ vs, V v) → Q κ s' → wpAny (model prog w) A (keyKind' vs.toArray) Q E s'
theorem pair_mem {vs : List Value} {x : Keyed} (h : x ∈ (PyProof.Rows.pairsOf vs).toList) : x.1 = x.2 ∧ x.2 ∈ vs := by
  have : (PyProof.Rows.pairsOf vs).toList = vs.zip vs := by unfold PyProof.Rows.pairsOf; simp
  rw [this] at h
  obtain ⟨i, hi⟩ := List.mem_iff_getElem?.mp h
  rw [List.getElem?_zip_eq_some] at hi
  have := hi.1.symm.trans hi.2
  exact ⟨Option.some.inj this, List.mem_of_getElem? hi.2⟩
theorem pair_snd (vs : List Value) : (PyProof.Rows.pairsOf vs).toList.map (·.2) = vs := by
  have : (PyProof.Rows.pairsOf vs).toList = vs.zip vs := by unfold PyProof.Rows.pairsOf; simp
  rw [this, List.map_snd_zip]; simp
theorem list_sortK {a : Addr} {vs : List Value} {n : Nat} {P : Fin → Shared → Prop} (SKy : SKey prog w A a s) (ho : s.heap.get? a = some (seqObj "list" vs.toArray n)) (hI : ∀ v ∈ vs, SKy.V v) (h128 : vs.length < 128)
    (h : ∀ us : List Value, us.Perm vs → us.Pairwise (fun x y => SKy.kf x ≤ SKy.kf y) → P (.done (.ret .none)) { s with heap := sortedHeap s.heap a vs us.toArray }) : wpAny (model prog w) A (Builtin.«list.sort» ⟨[.ref a], []⟩) P E s := by
  rw [list_sort_plain]
  have ha : a < s.heap.objs.size := Heap.lt_size ho
  refine wpAny_bind (listItems_at ho rfl ?_)
  refine wpAny_bind (listUpdate_at ho rfl ?_)
  obtain ⟨e1, ho1⟩ : ∃ e1, (s.heap.update a (Obj.mapSeq fun _ => #[])).get? a = some (seqObj "list" #[] e1) := ⟨_, get?_update_seq ho (fun _ => #[])⟩
  refine wpAny_bind (seqEpoch_at ho1 rfl ?_)
  refine wpAny_bind (wpAny_newTuple ?_)
  refine wpAny_bind (wpAny_newList ?_)
  refine wpAny_holding ?_
  have ho6 : (((s.heap.update a (Obj.mapSeq fun _ => #[])).push (seqObj "tuple" vs.toArray 0)).push (seqObj "list" #[] 0)).get? a = some (seqObj "list" #[] e1) := by
    rw [Heap.get?_push_ne _ _ _ (by rw [size_push', Heap.size_update]; exact Nat.ne_of_lt (Nat.lt_succ_of_lt ha)), Heap.get?_push_ne _ _ _ (by rw [Heap.size_update]; exact Nat.ne_of_lt ha)]
    exact ho1
  show wpAny (model prog w) A _ P E { s with heap := ((s.heap.update a (Obj.mapSeq fun _ => #[])).push (seqObj "tuple" vs.toArray 0)).push (seqObj "list" #[] 0) }
  have kept : ∀ c x, c ≠ a → s.heap.get? c = some x → (((s.heap.update a (Obj.mapSeq fun _ => #[])).push (seqObj "tuple" vs.toArray 0)).push (seqObj "list" #[] 0)).get? c = some x := fun c x hc e =>
    Heap.get?_push_of_some _ (Heap.get?_push_of_some _ ((Heap.get?_update_ne _ _ _ _ hc).trans e))
  dsimp only
  have hsz : vs.toArray.size = vs.length := by simp
  generalize hs6 : ({ s with heap := ((s.heap.update a (Obj.mapSeq fun _ => #[])).push (seqObj "tuple" vs.toArray 0)).push (seqObj "list" #[] 0) } : Shared) = s6
  have ho6' : s6.heap.get? a = some (seqObj "list" #[] e1) := by rw [← hs6]; exact ho6
  have kept' : ∀ c x, c ≠ a → s.heap.get? c = some x → s6.heap.get? c = some x := by rw [← hs6]; exact kept
  let O : SOrd prog w A s6 := ⟨SKy.κ, SKy.kf, SKy.V, SKy.lt s6 kept'⟩
  have fin : ∀ xs : Array Keyed, xs.Perm (PyProof.Rows.pairsOf vs) → Asc O xs 0 xs.size → P (.done (.ret .none)) { s6 with heap := s6.heap.update a (Obj.mapSeq fun _ => xs.map (·.2)) } := by
    intro xs hp hs
    have hp' := Array.perm_iff_toList_perm.mp hp
    have e : (xs.map (·.2)) = (xs.toList.map (·.2)).toArray := by
      apply Array.ext'
      rw [Array.toList_map]
    rw [e, ← hs6]
    refine h _ ?_ ?_
    · have := hp'.map (·.2)
      rwa [pair_snd] at this
    · rw [List.pairwise_map, List.pairwise_iff_getElem]
      intro i j hi hj hij
      have := hs i j (Nat.zero_le _) (by lia) (by simpa using hj)
      rw [O.K_at (x := xs[i]'(by simpa using hi)) (by simp), O.K_at (x := xs[j]'(by simpa using hj)) (by simp)] at this
      have m1 := (pair_mem (hp'.mem_iff.mp (List.getElem_mem hi))).1
      have m2 := (pair_mem (hp'.mem_iff.mp (List.getElem_mem hj))).1
      rw [← m1, ← m2]
      exact this
  have lim : ∀ xs : Array Keyed, xs.Perm (PyProof.Rows.pairsOf vs) → (xs.map (·.2)).size ≤ sizeLine + 1 := fun xs hp => by
    refine Nat.le_trans (Nat.le_of_eq ((Array.size_map ..).trans (hp.size_eq.trans (pairsOf_size _)))) ?_; rw [sizeLine_eq]; lia
  by_cases h2 : vs.toArray.size < 2
  · rw [if_pos h2, if_pos h2]
    refine wpAny_bind (wpAny_pure ?_)
    rw [StateT.run_pure]
    refine wpAny_bind (wpAny_pure ?_)
    dsimp only
    refine wpAny_bind (seqEpoch_at ho6' rfl ?_)
    refine wpAny_bind (listUpdate_at ho6' rfl ?_ (hsz2 := lim _ (Array.Perm.refl _)))
    simp only [bne_self_eq_false, Bool.false_eq_true, if_false]
    refine wpAny_pure (fin (vs.toArray.zip vs.toArray) (Array.Perm.refl _) ?_)
    intro i j _ hij hj
    have hz : (PyProof.Rows.pairsOf vs).size = _ := pairsOf_size vs
    have : i = j := by
      have hj : j < (PyProof.Rows.pairsOf vs).size := hj
      lia
    subst this; exact Int.le_refl _
  · rw [if_neg h2, if_neg h2]
    refine wpAny_bind (SKy.kind s6 kept' _ _ (by lia) hI ?_)
    refine wpAny_bind (wpAny_mono (sortRuns_ok (O := O) (a₀ := PyProof.Rows.pairsOf vs) (st := SortSt.mk' SKy.κ (vs.toArray.zip vs.toArray) #[] 7 none)
      (Q := fun _ st' => (arrOf st').Perm (PyProof.Rows.pairsOf vs) ∧ failedOf st' = none ∧ Asc O (arrOf st') 0 (PyProof.Rows.pairsOf vs).size)
      (fun x hx => by have := pair_mem hx; rw [this.1]; exact hI _ this.2) ⟨Array.Perm.refl _, rfl, rfl, rfl⟩ (by rw [pairsOf_size]; lia) (by rw [pairsOf_size]; exact h128) fun st' a1 a2 a3 => ⟨a1, a2, a3⟩) ?_ fun _ _ e => e)
    rintro ⟨⟨⟩, st'⟩ s' ⟨rfl, hp, hf, hs⟩
    dsimp only
    refine wpAny_bind (seqEpoch_at ho6' rfl ?_)
    refine wpAny_bind (listUpdate_at ho6' rfl ?_ (hsz2 := lim _ hp))
    rw [hf]
    simp only [bne_self_eq_false, Bool.false_eq_true, if_false]
    exact wpAny_pure (fin _ hp (by rw [hp.size_eq]; exact hs))

theorem sh_at {h : Heap} {a : Addr} {vs : List Value} {n : Nat} (out : Array Value) (ho : h.get? a = some (seqObj "list" vs.toArray n)) : ∃ k, (sortedHeap h a vs out).get? a = some (seqObj "list" out k) := by
  have ha : a < h.objs.size := Heap.lt_size ho
  obtain ⟨k1, e1⟩ : ∃ k1, (h.update a (Obj.mapSeq fun _ => #[])).get? a = some (seqObj "list" #[] k1) := ⟨_, get?_update_seq ho (fun _ => #[])⟩
  have e2 : (((h.update a (Obj.mapSeq fun _ => #[])).push (seqObj "tuple" vs.toArray 0)).push (seqObj "list" #[] 0)).get? a = some (seqObj "list" #[] k1) := by
    rw [Heap.get?_push_ne _ _ _ (by rw [size_push', Heap.size_update]; exact Nat.ne_of_lt (Nat.lt_succ_of_lt ha)), Heap.get?_push_ne _ _ _ (by rw [Heap.size_update]; exact Nat.ne_of_lt ha)]
    exact e1
  exact ⟨_, get?_update_seq e2 (fun _ => out)⟩
theorem sh_ne {h : Heap} {a c : Addr} {vs : List Value} {o : Obj} (out : Array Value) (hc : c ≠ a) (ho : h.get? c = some o) : (sortedHeap h a vs out).get? c = some o := by
  exact (Heap.get?_update_ne _ _ _ _ hc).trans (Heap.get?_push_of_some _ (Heap.get?_push_of_some _ ((Heap.get?_update_ne _ _ _ _ hc).trans ho)))

variable {b : Bs} {env : Env} {m cm : Nm} {G : View} {mu pre post : Mu}
theorem newMu2 {s' : Shared} (F : Fs b env m cm G mu s) {a : Addr} {o : Obj} (hn : s.heap.get? a = none) (F' : Fs b env m cm G mu s') (ho : s'.heap.get? a = some o) : Fs b env m cm G ((a, o) :: mu) s' := by
  have := Fs.newMu (h' := s'.heap) F hn ⟨F'.f, F.r.put _ _⟩ ho
  exact ⟨this.f, F'.r⟩
theorem mutB {l : Addr} {o o' : Obj} {h' : Heap} (F : Fs b env m cm G (pre ++ (l, o) :: post) s) (hk : ∀ c x, c ≠ l → s.heap.get? c = some x → h'.get? c = some x) (ho : h'.get? l = some o') : Fs b env m cm G (pre ++ (l, o') :: post) { s with heap := h' } := by
  have M := F.f.mus (l, o) (List.mem_append_right _ (.head _))
  refine F.heap (Fm.mutN F.f (by
      obtain ⟨o, es, ep, e, r⟩ := F.f.ns
      exact ⟨o, es, ep, hk _ _ (Ne.symm M.2.1) e, r⟩) (fun c x q _ e => hk c x q e) ho)

/-- list.sort -/
theorem sortMK {l : Addr} {vs : List Value} {n : Nat} {Q : Value → Shared → Prop} (F : Fs b env m cm G (pre ++ (l, seqObj "list" vs.toArray n) :: post) s)
    (SKy : SKey prog w (A.under (.builtin "list.sort" ⟨[.ref l], []⟩)) l s) (hI : ∀ v ∈ vs, SKy.V v) (h128 : vs.length < 128)
    (h : ∀ s' (us : List Value) k, us.Perm vs → us.Pairwise (fun x y => SKy.kf x ≤ SKy.kf y) → Fs b env m cm G (pre ++ (l, seqObj "list" us.toArray k) :: post) s' → Q .none s') :
    wpAny (model prog w) A (PySem.call (.builtin "list.sort") [.ref l]) Q E s := by
  have ho := (F.f.mus (l, seqObj "list" vs.toArray n) (List.mem_append_right _ (.head _))).1
  refine wpAny_call_entry slot_list_sort ⟨_, ho, rfl⟩ entry_list_sort ?_ (args_list_sort _)
  refine list_sortK SKy ho hI h128 fun us a1 a2 => ⟨_, rfl, ?_⟩
  obtain ⟨k, hk⟩ := sh_at us.toArray ho
  exact h _ us k a1 a2 (mutB F (fun c x q e => sh_ne us.toArray q e) hk)
theorem ints_self : ∀ {vs : List Value}, (∀ v ∈ vs, ∃ n t, v = Value.int n t) → IntsAre vs (vs.map numOf)
  | [], _ => .nil
  | v :: vs, h => by
    obtain ⟨n, t, rfl⟩ := h v (.head _)
    exact .cons n t (ints_self fun v hv => h v (.tail _ hv))
theorem ints_num : ∀ {vs : List Value} {ns : List Int}, IntsAre vs ns → vs.map numOf = ns
  | _, _, .nil => rfl
  | _, _, .cons n t r => by rw [List.map_cons, ints_num r]; rfl
def intKey (l : Addr) (s : Shared) : SKey prog w A l s where
  κ := oneType'
  kf := numOf
  V := fun v => ∃ n t, v = .int n t
  lt := fun s' _ E x y Q hx hy h => by
    obtain ⟨n, t, rfl⟩ := hx
    obtain ⟨k, u, rfl⟩ := hy
    rw [keyLt'_oneType]
    exact oneLt_int h
  kind := fun s' _ E vs Q h2 hV h => by
    obtain ⟨v₁, v₂, rest, rfl⟩ : ∃ v₁ v₂ rest, vs = v₁ :: v₂ :: rest := by
      match vs, h2 with
      | v₁ :: v₂ :: rest, _ => exact ⟨v₁, v₂, rest, rfl⟩
    rw [keyKind_ints (ints_self hV)]
    exact wpAny_pure h
theorem sortM {l : Addr} {vs : List Value} {ns : List Int} {n : Nat} {Q : Value → Shared → Prop} (F : Fs b env m cm G (pre ++ (l, seqObj "list" vs.toArray n) :: post) s) (hI : IntsAre vs ns) (h128 : vs.length < 128)
    (h : ∀ s' (us : List Value) (ns' : List Int) k, IntsAre us ns' → ns'.Perm ns → ns'.Pairwise (· ≤ ·) → Fs b env m cm G (pre ++ (l, seqObj "list" us.toArray k) :: post) s' → Q .none s') :
    wpAny (model prog w) A (PySem.call (.builtin "list.sort") [.ref l]) Q E s := by
  refine sortMK F (intKey l s) (fun v hv => ?_) h128 fun s' us k hp hs F' => h s' us (us.map numOf) k (ints_self fun v hv => ?_) ?_ ?_ F'
  · obtain ⟨i, hi⟩ := List.mem_iff_getElem?.mp hv
    obtain ⟨n, t, e, _⟩ := hI.at i v hi
    exact ⟨n, t, e⟩
  · obtain ⟨i, hi⟩ := List.mem_iff_getElem?.mp (hp.mem_iff.mp hv)
    obtain ⟨n, t, e, _⟩ := hI.at i v hi
    exact ⟨n, t, e⟩
  · have := hp.map numOf
    rwa [ints_num hI] at this
  · rw [List.pairwise_map]; exact hs
end
end Mine
end

/-! D1 -/
section
open PySem PySem.W PyProof.Rows
set_option Elab.async false
set_option maxRecDepth 100000
set_option maxHeartbeats 4000000
set_option linter.unusedVariables false
namespace Mine
def IsD (prog : Program) (w : World) (o : Obj) (kvs : List (Int × Value)) : Prop := o.IsDictOf (intKind prog w) kvs
def DAt (prog : Program) (w : World) (G : View) (d : Addr) (kvs : List (Int × Value)) : Prop := (d == sysModules) = false ∧ ∃ o, G d = some o ∧ IsD prog w o kvs
section
variable {prog : Program} {w : World} {b : Bs} {env : Env} {m cm : Nm} {G G' : View} {mu pre post : Mu} {A : Around} {s : Shared} {E : Value → Shared → Prop} {d : Addr} {kvs : List (Int × Value)} {k : Int} {t : Tok}
theorem DAt.mono (x : DAt prog w G d kvs) (le : Le G G') : DAt prog w G' d kvs := let ⟨h, o, e, r⟩ := x; ⟨h, o, le _ _ e, r⟩
theorem Fm.dct {h : Heap} (F : Fm b env m cm G mu h) (x : DAt prog w G d kvs) : h.DictOf (intKind prog w) d kvs := let ⟨_, o, e, r⟩ := x; Heap.dictOf_iff.mpr ⟨o, F.view _ _ e, r⟩
theorem Fm.dctM {h : Heap} {o : Obj} (F : Fm b env m cm G mu h) (hm : (d, o) ∈ mu) (x : IsD prog w o kvs) : h.DictOf (intKind prog w) d kvs := Heap.dictOf_iff.mpr ⟨o, (F.mus _ hm).1, x⟩
theorem Fm.sys {h : Heap} (F : Fm b env m cm G mu h) (hs : sysModules < b.T.objs.size) : (h.objs.size == sysModules) = false := by
  have h1 := F.above
  have h2 := F.ns.lt
  rw [beq_eq_false_iff_ne]
  exact Nat.ne_of_gt (Nat.lt_of_lt_of_le hs (Nat.le_trans h1 (Nat.le_of_lt h2)))
theorem dictE {pos : Pos} {Q : Value → Shared → Prop} (hs : sysModules < b.T.objs.size) (F : Fs b env m cm G mu s)
    (h : ∀ d s' o, (d == sysModules) = false → IsD prog w o [] → Fs b env m cm G ((d, o) :: mu) s' → Q (.ref d) s') : wpAny (model prog w) A (eval (.Dict [] [] pos) env) Q E s := by
  refine wpAny_Dict_empty (h _ _ _ (F.f.sys hs) ?_ (F.heap (F.f.allocMu { cls := .type "dict", data := .dict #[] })))
  exact ⟨#[], 0, ⟨rfl, rfl, rfl⟩, rfl, (by intro e he; simp at he), .nil, by simp⟩
theorem setD {o : Obj} {v : Value} {Q : Unit → Shared → Prop} (F : Fs b env m cm G (pre ++ (d, o) :: post) s) (ho : IsD prog w o kvs) (hz : kvs.length ≤ 1000)
    (h : ∀ s' o', IsD prog w o' (stored kvs k v) → Fs b env m cm G (pre ++ (d, o') :: post) s' → Q () s') : wpAny (model prog w) A (setItem (.ref d) (.int k t) v) Q E s := by
  refine wpAny_setItem_pairs (knd := intKind prog w) (intKind_is prog w k t) (F.f.dctM (List.mem_append_right _ (.head _)) ho) (fun h' hd' hs => ?_) (by rw [sizeLine_eq]; lia)
  obtain ⟨o', ho', r⟩ := Heap.dictOf_iff.mp hd'
  exact h _ o' r (F.put (F.f.mut hs ho') _)
theorem inD {Q : Value → Shared → Prop} (F : Fs b env m cm G mu s) (x : DAt prog w G d kvs) (h : ∀ s', Fs b env m cm G mu s' → Q (.bool (valueAt kvs k).isSome) s') : wpAny (model prog w) A (compareOp .In (.int k t) (.ref d)) Q E s :=
  wpAny_in_of (knd := intKind prog w) (intKind_is prog w k t) x.1 (F.f.dct x).mapOf (h _ (F.tok _))
theorem itemD {value slice : PySem.Expr} {v : Value} {Q : Value → Shared → Prop} (F : Fs b env m cm G mu s) (x : DAt prog w G d kvs) (hv : valueAt kvs k = some v) (h : ∀ s', Fs b env m cm G mu s' → Q v s')
    (hs : subscripted slice false (.ref d) (.int k t) = operate [.ref d, .int k t] (getItem (.ref d) (.int k t)) := by with_unfolding_all rfl) : wpAny (model prog w) A (subscriptTail value slice (.ref d) (.int k t)) Q E s :=
  tail_any (F.f.dct x).typeIs slot_dict_getitem.lookup (wpAny_getItem_of (knd := intKind prog w) (intKind_is prog w k t) (F.f.dct x).mapOf hv (h _ (F.tok _))) hs
theorem methGet {pl : Sem Bool} {Q : Value × List Value → Shared → Prop} (F : Fs b env m cm G mu s) (x : DAt prog w G d kvs) (h : Q (.builtin "dict.get", [.ref d]) s) : wpAny (model prog w) A (getMethod (.ref d) "get" pl) Q E s :=
  getMethod_builtin (F.f.dct x).typeIs PySem.F.plainAttrs_dict PySem.F.slot_dict_get PySem.F.type_dict_get (F.f.dct x).mapOf.noDict h
theorem callGet {z : Value} {Q : Value → Shared → Prop} (F : Fs b env m cm G mu s) (x : DAt prog w G d kvs) (h : ∀ s', Fs b env m cm G mu s' → Q ((valueAt kvs k).getD z) s') : wpAny (model prog w) A (PySem.call (.builtin "dict.get") [.ref d, .int k t, z]) Q E s :=
  call_meetsIn PySem.F.slot_dict_get (F.f.dct x).typeIs PySem.F.entry_dict_get (PySem.F.args_dict_get_3 _ _ _) (meets_dict_get_default (intKind prog w) d (intKind_is prog w k t) x.1 z) ⟨_, (F.f.dct x).mapOf, h _ (F.tok _)⟩
theorem methValues {pl : Sem Bool} {Q : Value × List Value → Shared → Prop} (F : Fs b env m cm G mu s) (x : DAt prog w G d kvs) (h : Q (.builtin "dict.values", [.ref d]) s) : wpAny (model prog w) A (getMethod (.ref d) "values" pl) Q E s :=
  getMethod_builtin (F.f.dct x).typeIs PySem.F.plainAttrs_dict PySem.F.slot_dict_values PySem.F.type_dict_values (F.f.dct x).mapOf.noDict h
def VAt (G : View) (v d : Addr) : Prop := ∃ o, G v = some o ∧ o.cls = .type "dict_values" ∧ o.data = .fields #[.ref d]
theorem VAt.mono {v : Addr} (x : VAt G v d) (le : Le G G') : VAt G' v d := let ⟨o, e, r⟩ := x; ⟨o, le _ _ e, r⟩
theorem callValues {Q : Value → Shared → Prop} (F : Fs b env m cm G mu s) (x : DAt prog w G d kvs) (h : ∀ v s' G', Le G G' → VAt G' v d → Fs b env m cm G' mu s' → Q (.ref v) s') : wpAny (model prog w) A (PySem.call (.builtin "dict.values") [.ref d]) Q E s := by
  refine call_meetsIn PySem.F.slot_dict_values (F.f.dct x).typeIs PySem.F.entry_dict_values (PySem.F.args_dict_values_1 _) (meets_dict_values (intKind prog w) d x.1) ⟨⟨_, F.f.dct x⟩, ?_⟩
  obtain ⟨F', le⟩ := F.f.alloc { cls := .type "dict_values", data := .fields #[.ref d] }
  exact h _ _ _ le ⟨_, ext_self .., rfl, rfl⟩ (F.heap F')
theorem lenD {Q : Value → Shared → Prop} (F : Fs b env m cm G mu s) (x : DAt prog w G d kvs) (hz : kvs.length < 1000) (h : ∀ t s', Fs b env m cm G mu s' → Q (.int kvs.length t) s') : wpAny (model prog w) A (PySem.call (.builtin "len") [.ref d]) Q E s :=
  call_len_dict x.1 (F.f.dct x) (by lia) (h _ _ (F.tok _))

theorem Fs.freezeNew {s' : Shared} {D : Addr} {o : Obj} (F4 : Fs b env m cm G ((D, o) :: mu) s') (F : Fs b env m cm G mu s) (hn0 : s.heap.get? D = none) : ∃ G', Le G G' ∧ G' D = some o ∧ Fs b env m cm G' mu s' := by
  have hx : D ∉ b.X := fun hx => by
    obtain ⟨p, hp, e⟩ := List.mem_map.mp (F.f.xin _ hx)
    have := (F.f.mus p hp).1
    rw [e, hn0] at this; cases this
  obtain ⟨F', le⟩ := F4.f.freeze ((F4.f.mfr (D, o) (.head _)).resolve_left hx) hx
  exact ⟨_, le, ext_self .., F', F4.r⟩
/-- sorted, of what collects to ints -/
theorem sortedK {T : String} {r : Addr} {n : Nat} {P : Nat → Value → Prop} {OK : Heap → Prop} {xs : List Int} {Q : Value → Shared → Prop} (hh : A.handled = none) (KS : KdlSrc prog w T r d n P OK) (F : Fs b env m cm G mu s) (hok : OK s.heap) (hn : n < 128)
    (hP : ∀ vs : List Value, vs.length = n → (∀ (j : Nat) (v : Value), vs[j]? = some v → P j v) → IntsAre vs xs)
    (h : ∀ a s' G' us ys, Le G G' → LstAt G' a us → IntsAre us ys → ys.Perm xs → ys.Pairwise (· ≤ ·) → Fs b env m cm G' mu s' → Q (.ref a) s') : wpAny (model prog w) A (PySem.call (.builtin "sorted") [.ref r]) Q E s := by
  refine kdu_sorted KS hh F.f.fr (F.f.news s.heap.objs.size) hok (by rw [sizeLine_eq]; lia) fun D h' tk vs F' N' hlt hl hp => ?_
  have I := hP vs hl hp
  have F2 := F.of_lib0 (fresh_none s) F' (fun p hp => N' p (List.mem_cons_of_mem _ hp)) tk
  have hD : h'.get? D = some (seqObj "list" vs.toArray 0) := (N' _ (.head _)).1
  have hn0 : s.heap.get? D = none := by
    cases q : s.heap.get? D with
    | none => rfl
    | some o =>
      have N0 := N' _ (.head _)
      exact absurd (hlt (D, o) (mem_allOf.mpr ⟨q, N0.2.1, (fun e => by rw [show D = s.heap.objs.size from e, fresh_none s] at q; exact absurd q (by simp)), N0.2.2⟩)) (Nat.lt_irrefl D)
  have F3 := newMu2 F hn0 F2 hD
  refine sortM (pre := []) F3 I (by lia) fun s' us ys k i1 i2 i3 F4 => ?_
  obtain ⟨G', le, hG, F5⟩ := F4.freezeNew F hn0
  exact h _ _ G' us ys le ⟨_, hG, rfl, _, rfl⟩ i1 i2 i3 F5
theorem ints_of : ∀ {vs : List Value} {xs : List Int}, vs.length = xs.length → (∀ (j : Nat) (v : Value), vs[j]? = some v → ∃ x t, xs[j]? = some x ∧ v = .int x t) → IntsAre vs xs
  | [], [], _, _ => .nil
  | v :: vs, x :: xs, hl, h => by
    obtain ⟨x', t, e1, e2⟩ := h 0 v rfl
    simp at e1; subst e1; subst e2
    exact .cons _ _ (ints_of (by simpa using hl) fun j v e => h (j + 1) v e)
theorem sortedDict {Q : Value → Shared → Prop} (hh : A.handled = none) (F : Fs b env m cm G mu s) (x : DAt prog w G d kvs) (hn : kvs.length < 128)
    (h : ∀ a s' G' us ys, Le G G' → LstAt G' a us → IntsAre us ys → ys.Perm (kvs.map (·.1)) → ys.Pairwise (· ≤ ·) → Fs b env m cm G' mu s' → Q (.ref a) s') : wpAny (model prog w) A (PySem.call (.builtin "sorted") [.ref d]) Q E s := by
  obtain ⟨o, es, ep, ho, hx⟩ := F.f.dct x
  refine sortedK (xs := kvs.map (·.1)) hh (kdl_dict (knd := intKind prog w) (ep := ep) x.1) F ⟨o, es, ho, hx⟩ hn (fun vs hl hp => ints_of (by simp [hl]) fun j v e => ?_) h
  obtain ⟨k, y, e1, e2⟩ := hp j v e
  obtain ⟨t, rfl⟩ := Value.isInt_shape e2
  exact ⟨k, t, by simp [e1], rfl⟩
theorem sortedVals {v : Addr} {xs : List Int} {Q : Value → Shared → Prop} (hh : A.handled = none) (F : Fs b env m cm G mu s) (x : DAt prog w G d kvs) (y : VAt G v d) (hl : kvs.length = xs.length) (hv : ∀ (i : Nat) kv, kvs[i]? = some kv → ∃ x t, xs[i]? = some x ∧ kv.2 = .int x t) (hn : kvs.length < 128)
    (h : ∀ a s' G' us ys, Le G G' → LstAt G' a us → IntsAre us ys → ys.Perm xs → ys.Pairwise (· ≤ ·) → Fs b env m cm G' mu s' → Q (.ref a) s') : wpAny (model prog w) A (PySem.call (.builtin "sorted") [.ref v]) Q E s := by
  obtain ⟨o, es, ep, ho, hx⟩ := F.f.dct x
  obtain ⟨o', ho', hc⟩ := y
  refine sortedK (xs := xs) hh (kdl_values (knd := intKind prog w) (r := v) (d := d) (kvs := kvs) (ep := ep)) F ⟨⟨o', F.f.view _ _ ho', hc⟩, o, es, ho, hx⟩ hn (fun vs hl' hp => ints_of (by lia) fun j v e => ?_) h
  obtain ⟨k, e1⟩ := hp j v e
  exact hv j _ e1
end
end Mine
end

/-! C1 -/
section
open PySem PySem.W PyProof.Rows
set_option Elab.async false
set_option maxRecDepth 100000
set_option maxHeartbeats 4000000
set_option linter.unusedVariables false
namespace Mine
section
variable {prog : Program} {w : World} {A : Around} {R : Result → Shared → Prop} {s : Shared}
abbrev testsOf (ifs : List PySem.Expr) (env : Env) : Sem Bool := forIn ifs true fun c r => if r = true then do let ok ← isTrue c env (eval c env); pure (ForInStep.yield ok) else pure (ForInStep.yield r)
theorem compLoop_own {elt target iter : PySem.Expr} {ifs : List PySem.Expr} {scope : Scope} {pos : Pos} {it acc : Value} {env : Env} (I : Nat → Shared → Prop)
    (turn : ∀ n s, I n s → wpAny (model prog w) A (pyNext it) (fun r s₁ => match r with
      | none => R (.ok .next) s₁
      | some v => wpAny (model prog w) A (letOwnedTupleGo target it v) (fun _ s₁' => wpAny (model prog w) A (assign target env v) (fun _ s₂ =>
          wpAny (model prog w) A (testsOf ifs env) (fun ok s₃ =>
            if ok = true then wpAny (model prog w) A (eval elt env) (fun x s₄ =>
              wpAny (model prog w) A (PySem.call (.builtin "list.append") [acc, x]) (fun _ s₅ => ∃ m, m < n ∧ I m s₅) (notedBy (model prog w) A env fun e s' => R (.error e) s') s₄) (notedBy (model prog w) A env fun e s' => R (.error e) s') s₃
            else ∃ m, m < n ∧ I m s₃) (notedBy (model prog w) A env fun e s' => R (.error e) s') s₂) (notedBy (model prog w) A env fun e s' => R (.error e) s') s₁') (notedBy (model prog w) A env fun e s' => R (.error e) s') s₁) (notedBy (model prog w) A env fun e s' => R (.error e) s') s)
    (n : Nat) (h : I n s) : codeAny (model prog w) A (.compLoop (.ListComp elt [⟨target, iter, ifs, 0⟩] scope pos) 0 it acc env) R s := by
  refine codeAny_loop rfl I (fun n s hI => ?_) n h
  show wpAny _ A ((compTurn (.ListComp elt [⟨target, iter, ifs, 0⟩] scope pos) 0 it acc env).onRaise (fun x => do noteFrame x env; theTreesLotGoes x)) _ _ s
  refine wpAny_noted ?_
  rw [compTurn_list]
  refine wpAny_bind (wpAny_standAt (wpAny_bind (wpAny_mono (turn n s hI) (fun r s₁ h₁ => ?_) fun _ _ h' => h')))
  cases r with
  | none => exact wpAny_pure h₁
  | some v =>
    refine wpAny_bind (wpAny_mono h₁ (fun _ s₁' h₁' => ?_) fun _ _ h' => h')
    refine wpAny_bind (wpAny_mono h₁' (fun _ s₂ h₂ => wpAny_bind (wpAny_mono h₂ (fun ok s₃ h₃ => ?_) fun _ _ h' => h')) fun _ _ h' => h')
    cases ok with
    | false => exact wpAny_pure ⟨rfl, h₃⟩
    | true =>
      exact wpAny_bind (wpAny_bind (wpAny_mono h₃ (fun x s₄ h₄ => wpAny_bind (wpAny_mono h₄ (fun _ s₅ h₅ => wpAny_pure (wpAny_pure ⟨rfl, h₅⟩)) fun _ _ h' => h')) fun _ _ h' => h'))
end

section
variable {prog : Program} {w : World} {b : Bs} {env : Env} {m m' cm : Nm} {G G' : View} {mu mu' news : Mu} {A : Around} {s₀ s s' : Shared} {E : Value → Shared → Prop} {scope : Scope} {cl : List (PySem.Str × Addr)}
/-- into a comprehension's own frame -/
theorem Fs.nest (F0 : Fs b env m cm G mu s₀) (F : Fs b env m cm G (news ++ mu) s) (hn : ∀ p ∈ news, s₀.heap.get? p.1 = none) (keep : ∀ a o, s₀.heap.get? a = some o → s.heap.get? a = some o) (hr : Rest s₀ s) {h₁ : Heap} {tk : Nat}
    (hns : h₁.Ns s.heap.objs.size fun _ => none) (hk : ∀ a o, s.heap.get? a = some o → h₁.get? a = some o) (hsub : ∀ n c, (n, c) ∈ cl → (n, c) ∈ env.cells) (hap : cl.Pairwise fun x y => x.1 ≠ y.1 ∧ x.2 ≠ y.2) :
    Fs ⟨b.T, s₀, G, []⟩ (compEnvC scope cl s.heap.objs.size env) (fun _ => none) cm G news { s with heap := h₁, toks := tk } := by
  have fresh := fresh_none s
  have ne : ∀ a o, s.heap.get? a = some o → a ≠ s.heap.objs.size := fun a o e q => by rw [q, fresh] at e; cases e
  have gC : G s.heap.objs.size = none := by
    cases q : G s.heap.objs.size with
    | none => rfl
    | some o => have := F.f.view _ _ q; rw [fresh] at this; cases this
  have M : ∀ p ∈ news, _ := fun p hp => F.f.mus p (List.mem_append_left _ hp)
  refine ⟨⟨hns, fun n c hc => (F.f.cell n c (hsub n c hc)).keeps hk, fun n c hc => ⟨(F.f.nC n c (hsub n c hc)).1, let ⟨o, e, _⟩ := F.f.cell n c (hsub n c hc); ne c o e⟩, hap, F.f.top, ?_, fun a o e => hk a o (F.f.view a o e), gC,
    fun p hp => ⟨hk _ _ (M p hp).1, ne _ _ (M p hp).1, (M p hp).2.2.1, fun n c hc => (M p hp).2.2.2 n c (hsub n c hc)⟩, ?_, fun p hp => .inr (hn p hp), (fun a ha => nomatch ha), fun a o e _ => hk a o (keep a o e), fun a o e => .inl e,
    fun a o e => ⟨ne a o (keep a o e), fun h => nomatch h⟩⟩, hr.put _ _⟩
  · have h2 := F.f.ns.lt
    exact Nat.le_trans F.f.above (Nat.le_of_lt h2)
  · have := F.f.mnd
    rw [List.map_append] at this
    exact (List.nodup_append.mp this).1
/-- and out of it -/
theorem Fs.unnest {C : Addr} (F0 : Fs b env m cm G mu s₀) (hC : s₀.heap.get? C = none) (F : Fs ⟨b.T, s₀, G, []⟩ (compEnvC scope cl C env) m' cm G' mu' s) (le : Le G G') :
    ∃ oC, s.heap.get? C = some oC ∧ Fs b env m cm G' ((C, oC) :: mu) s := by
  obtain ⟨oC, es, ep, hoC, _⟩ := id F.f.ns
  have F1 : Fs b env m cm G' mu s := ⟨F0.f.grow (fun a o e => F.f.keep a o e (fun h => nomatch h)) le F.f.view F.f.gfr, F0.r.trans F.r⟩
  have hC' : s.heap.get? C = some oC := hoC
  have hL : ∃ o, s₀.heap.get? env.locals = some o := let ⟨o, _, _, e, _⟩ := F0.f.ns; ⟨o, e⟩
  refine ⟨oC, hC', { F1.f with mus := fun p hp => ?_, mnd := ?_, mfr := fun p hp => ?_, xin := fun c hc => List.mem_cons_of_mem _ (F1.f.xin c hc) }, F1.r⟩
  · rcases List.mem_cons.mp hp with rfl | hp
    · refine ⟨hC', fun q => ?_, F.f.nL, fun n c hc q => ?_⟩
      · obtain ⟨o', e⟩ := hL; rw [← q, hC] at e; cases e
      · obtain ⟨o', e, _⟩ := F0.f.cell n c hc
        rw [← q, hC] at e; cases e
    · exact F1.f.mus p hp
  · refine List.nodup_cons.mpr ⟨fun hm => ?_, F1.f.mnd⟩
    obtain ⟨p, hp, e⟩ := List.mem_map.mp hm
    have := (F0.f.mus p hp).1
    rw [e, hC] at this; cases this
  · rcases List.mem_cons.mp hp with rfl | hp
    · right
      cases r : b.H.get? C with
      | none => rfl
      | some o' =>
        by_cases hx : C ∈ b.X
        · obtain ⟨p, hp, e⟩ := List.mem_map.mp (F0.f.xin _ hx)
          have := (F0.f.mus p hp).1
          rw [e, hC] at this; cases this
        · have := F0.f.keep _ o' r hx; rw [hC] at this; cases this
    · exact F1.f.mfr p hp

theorem compW {Z : Value → Addr → Result → Shared → Prop} {elt target iter : PySem.Expr} {ifs : List PySem.Expr} {pos : Pos} {I : Addr} {oI : Obj} {fp : List Addr} {n : Nat} {P : Nat → Value → Prop} {St : Nat → Heap → Prop} (W : Walks prog w A I (I :: fp) [I] n P St) (hz : n ≤ 1000)
    (hfp : ∀ c ∈ fp, ∃ o, G c = some o) (hal : ∀ i h, St i h → ∃ o, h.get? I = some o)
    (hgo : ∀ i v (s : Shared) (Q : Unit → Shared → Prop) E, St (i + 1) s.heap → P i v → Q () s → wpAny (model prog w) A (letOwnedTupleGo target (.ref I) v) Q E s)
    (hkind : scope.kind = .function) (hcell : ∀ x ∈ scope.names, x.2 ≠ .cell) (hsub : ∀ n c, (n, c) ∈ cl → (n, c) ∈ env.cells) (hap : cl.Pairwise fun x y => x.1 ≠ y.1 ∧ x.2 ≠ y.2)
    (F0 : Fs b env m cm G mu s₀) (hI : s₀.heap.get? I = none) (F : Fs b env m cm G ((I, oI) :: mu) s) (keep : ∀ a o, s₀.heap.get? a = some o → s.heap.get? a = some o) (hr : Rest s₀ s) (hst : St 0 s.heap)
    (J : Nat → Nm → View → List Value → Prop) (hJ : J 0 (fun _ => none) G [])
    (turn : ∀ i v C b' m₁ G₁ mu₁ ys s₁ E₁, i < n → P i v → Le G G₁ → J i m₁ G₁ ys → b'.T = b.T → Fs b' (compEnvC scope cl C env) m₁ cm G₁ mu₁ s₁ →
      wpAny (model prog w) A (assign target (compEnvC scope cl C env) v) (fun _ s₂ => wpAny (model prog w) A (testsOf ifs (compEnvC scope cl C env)) (fun ok s₃ =>
        if ok = true then wpAny (model prog w) A (eval elt (compEnvC scope cl C env)) (fun y s₄ => E2 fun m₂ G₂ => A3 (Le G₁ G₂) (Fs b' (compEnvC scope cl C env) m₂ cm G₂ mu₁ s₄) (J (i + 1) m₂ G₂ (ys ++ [y]))) E₁ s₃
        else E2 fun m₂ G₂ => A3 (Le G₁ G₂) (Fs b' (compEnvC scope cl C env) m₂ cm G₂ mu₁ s₃) (J (i + 1) m₂ G₂ ys)) E₁ s₂) E₁ s₁)
    (done : ∀ D C oC m' G₁ G₂ ys k s', Le G G₁ → J n m' G₁ ys → Le G₁ G₂ → G₂ D = some (seqObj "list" ys.toArray k) → s'.heap.Ns C m' → Fs b env m cm G₂ ((C, oC) :: mu) s' → Z (.ref D) C (.ok .next) s') :
    wpAny (model prog w) A (newList []) (fun acc s₃ => wpAny (model prog w) A (newFunctionEnv scope env.globals cl [] env.qual none .none (some env)) (fun cenv s₄ =>
      codeAny (model prog w) A (.compStart (.ListComp elt [⟨target, iter, ifs, 0⟩] scope pos) 0 (.ref I) acc { cenv with scope := relabel scope env }) (Z acc cenv.locals) s₄) E s₃) E s := by
  refine wpAny_newObj_type (wpAny_newFunctionEnv hcell (by intro y hy; simp at hy) (fun h₁ hns₁ hsb₁ => ?_) hkind)
  dsimp only at hns₁ hsb₁ ⊢
  have FD := F.heap (F.f.allocMu (seqObj "list" #[] 0))
  have hD0 : s₀.heap.get? s.heap.objs.size = none := by
    cases q : s₀.heap.get? s.heap.objs.size with
    | none => rfl
    | some o => have := keep _ _ q; rw [fresh_none s] at this; cases this
  generalize hD : s.heap.objs.size = D at *
  have keep1 : ∀ a o, s.heap.get? a = some o → (s.heap.push (seqObj "list" #[] 0)).get? a = some o := fun a o e => Heap.get?_push_of_some _ e
  have hk1 : ∀ a o, (s.heap.push (seqObj "list" #[] 0)).get? a = some o → h₁.get? a = some o := fun a o e =>
    hsb₁.extBut a o (fun q => by
      have := Heap.lt_size e
      rw [q] at this; exact Nat.lt_irrefl _ this) (Heap.get?_push_of_some _ e)
  have nodef : (fun x : PySem.Str => List.lookup x ([] : List (PySem.Str × Value)).reverse) = fun _ => none := rfl
  rw [nodef] at hns₁
  have F1 := Fs.nest (scope := scope) (cl := cl) (news := [(D, seqObj "list" #[] 0), (I, oI)]) (tk := s.toks + ([] : List (PySem.Str × Value)).length) F0 FD (fun p hp => by
    rcases List.mem_cons.mp hp with rfl | hp
    · exact hD0
    · rw [List.mem_singleton.mp hp]; exact hI) (fun a o e => keep1 a o (keep a o e)) (hr.put _ _) hns₁ hk1 hsub hap
  have hst1 : St 0 h₁ := W.frame _ _ _ hst fun c _ o e => hk1 _ _ (keep1 _ _ e)
  generalize hC : ({ s with heap := s.heap.push (seqObj "list" #[] 0) } : Shared).heap.objs.size = C at F1
  have hC0 : s₀.heap.get? C = none := by
    cases q : s₀.heap.get? C with
    | none => rfl
    | some o =>
      have := keep1 _ _ (keep _ _ q)
      rw [← hC, show ({ s with heap := s.heap.push (seqObj "list" #[] 0) } : Shared).heap = s.heap.push (seqObj "list" #[] 0) from rfl, Heap.get?_none_of_le (Nat.le_refl _)] at this; cases this
  have hne : D ≠ I := by
    have := FD.f.mnd
    simp only [List.map_cons, List.nodup_cons, List.mem_cons, not_or] at this
    exact this.1.1
  have loop : codeAny (model prog w) A (.compLoop (.ListComp elt [⟨target, iter, ifs, 0⟩] scope pos) 0 (.ref I) (.ref D) (compEnvC scope cl C env)) (Z (.ref D) C) { s with heap := h₁, toks := s.toks + ([] : List (PySem.Str × Value)).length } := by
    refine compLoop_own (fun k s' => E6 fun i m₁ G₁ ys nn oI => A7 (Le G G₁) (Fs ⟨b.T, s₀, G, []⟩ (compEnvC scope cl C env) m₁ cm G₁ [(D, seqObj "list" ys.toArray nn), (I, oI)] s') (St i s'.heap) (J i m₁ G₁ ys) (i ≤ n) (ys.length ≤ i) (k = n + 1 - i)) ?_ (n + 1)
      ⟨0, _, G, [], 0, oI, Le.refl _, F1, hst1, hJ, Nat.zero_le _, Nat.le_refl _, rfl⟩
    rintro k s' ⟨i, m₁, G₁, ys, nn, oI, le₁, F₁, st₁, J₁, hi, hy, rfl⟩
    by_cases hlt : i < n
    · refine W.item i _ _ _ hlt st₁ fun v h₂ tk₂ hP st₂ hk₂ => ?_
      obtain ⟨oI', ho'⟩ := hal _ _ st₂
      have hk₂' : ∀ a o, a ≠ I → s'.heap.get? a = some o → h₂.get? a = some o := fun a o q e => hk₂ a o (by simpa using q) e
      have M := F₁.f.mus (I, oI) (.tail _ (.head _))
      have F₂ : Fs ⟨b.T, s₀, G, []⟩ (compEnvC scope cl C env) m₁ cm G₁ [(D, seqObj "list" ys.toArray nn), (I, oI')] { s' with heap := h₂, toks := tk₂ } := F₁.put (Fm.mutN (pre := [_]) F₁.f (by
        obtain ⟨o, es, ep, e, r⟩ := F₁.f.ns
        exact ⟨o, es, ep, hk₂' _ _ (Ne.symm M.2.1) e, r⟩) (fun c x q _ e => hk₂' c x q e) ho') tk₂
      have again : ∀ {m₂ : Nm} {G₂ : View} {ys' : List Value} {nn' : Nat} {s₄ : Shared}, Le G₁ G₂ → Fs ⟨b.T, s₀, G, []⟩ (compEnvC scope cl C env) m₂ cm G₂ [(D, seqObj "list" ys'.toArray nn'), (I, oI')] s₄ → J (i + 1) m₂ G₂ ys' → ys'.length ≤ i + 1 →
          ∃ k', k' < n + 1 - i ∧ E6 fun i m₁ G₁ ys nn oI => A7 (Le G G₁) (Fs ⟨b.T, s₀, G, []⟩ (compEnvC scope cl C env) m₁ cm G₁ [(D, seqObj "list" ys.toArray nn), (I, oI)] s₄) (St i s₄.heap) (J i m₁ G₁ ys) (i ≤ n) (ys.length ≤ i) (k' = n + 1 - i) := by
        intro m₂ G₂ ys' nn' s₄ le₂ F₄ J₄ hy'
        refine ⟨n + 1 - (i + 1), by lia, i + 1, m₂, G₂, ys', nn', oI', le₁.trans le₂, F₄, W.frame _ _ _ st₂ fun c hc o e => ?_, J₄, hlt, hy', rfl⟩
        rcases List.mem_cons.mp hc with rfl | hc
        · rw [ho'] at e; cases e
          exact (F₄.f.mus (c, oI') (.tail _ (.head _))).1
        · obtain ⟨oc, ec⟩ := hfp c hc
          have e1 := F₂.f.view _ _ (le₁ _ _ ec)
          rw [show ({ s' with heap := h₂, toks := tk₂ } : Shared).heap = h₂ from rfl] at e1
          rw [e] at e1; cases e1
          exact F₄.f.view _ _ (le₂ _ _ (le₁ _ _ ec))
      refine hgo i v _ _ _ st₂ hP ?_
      refine wpAny_mono (turn i v C ⟨b.T, s₀, G, []⟩ m₁ G₁ _ ys _ _ hlt hP le₁ J₁ rfl F₂) (fun _ s₃ h₃ => wpAny_mono h₃ (fun ok s₄ h₄ => ?_) fun _ _ e => e) fun _ _ e => e
      cases ok with
      | false =>
        obtain ⟨m₂, G₂, le₂, F₄, J₄⟩ := h₄
        exact again le₂ F₄ J₄ (by lia)
      | true =>
        refine wpAny_mono (show wpAny (model prog w) A (eval elt (compEnvC scope cl C env)) _ _ s₄ from h₄) (fun y s₅ h₅ => ?_) fun _ _ e => e
        obtain ⟨m₂, G₂, le₂, F₅, J₅⟩ := h₅
        refine appendM (pre := []) F₅ (by lia) fun s₆ F₆ => ?_
        exact again le₂ F₆ J₅ (by simp; lia)
    · have hin : i = n := by lia
      subst hin
      refine W.done _ _ _ st₁ fun h₂ tk₂ hk₂ => ?_
      have F₂ : Fs ⟨b.T, s₀, G, []⟩ (compEnvC scope cl C env) m₁ cm G₁ [(D, seqObj "list" ys.toArray nn)] { s' with heap := h₂, toks := tk₂ } :=
        F₁.put (Fm.upX (F₁.f.perm (List.Perm.swap _ _ _)) (fun h => nomatch h) fun a o q e => hk₂ a o (by simpa using q) e) tk₂
      obtain ⟨F₃, le₃⟩ := F₂.f.freeze hD0 (fun h => nomatch h)
      obtain ⟨oC, hoC, F₄⟩ := Fs.unnest (mu' := []) F0 hC0 ⟨F₃, F₂.r⟩ (le₁.trans le₃)
      exact done D C oC m₁ G₁ _ ys nn _ le₁ J₁ le₃ (ext_self ..) F₃.ns F₄
  refine codeAny_compStart_list loop (W.self 0 _ _ _ hst1 loop)
end
end Mine
end

/-! C2 -/
section
open PySem PySem.W PyProof.Rows
set_option Elab.async false
set_option maxRecDepth 100000
set_option maxHeartbeats 4000000
set_option linter.unusedVariables false
namespace Mine
section
variable {prog : Program} {w : World} {b : Bs} {env : Env} {m m' cm : Nm} {G G' : View} {mu mu' news : Mu} {A : Around} {s₀ s s' : Shared} {E : Value → Shared → Prop} {scope : Scope} {cl : List (PySem.Str × Addr)}
  {elt target iter : PySem.Expr} {ifs : List PySem.Expr} {pos : Pos}
def CompAt (prog : Program) (w : World) (A : Around) (env : Env) (cl : List (PySem.Str × Addr)) (elt target iter : PySem.Expr) (ifs : List PySem.Expr) (scope : Scope) (pos : Pos) (use : Option (Value → Sem Unit)) (Q : Value → Shared → Prop) (E : Value → Shared → Prop) (xv : Value) (s : Shared) : Prop :=
  wpAny (model prog w) A (pyIter xv) (fun it s₂ => wpAny (model prog w) A (newList []) (fun acc s₃ => wpAny (model prog w) A (newFunctionEnv scope env.globals cl [] env.qual none .none (some env)) (fun cenv s₄ =>
      codeAny (model prog w) A (.compStart (.ListComp elt [⟨target, iter, ifs, 0⟩] scope pos) 0 it acc { cenv with scope := relabel scope env }) (compPost (model prog w) A E use Q acc cenv.locals) s₄) E s₃) E s₂) E s
theorem compE {Q : Value → Shared → Prop} (hclos : closureFor scope env = pure cl) (hkind : scope.kind = .function) (hnames : ∀ x ∈ scope.names, x.2 = .local → scope.names.lookup x.1 = some .local)
    (h : wpAny (model prog w) A (eval iter env) (fun xv s₁ => CompAt prog w A env cl elt target iter ifs scope pos none Q E xv s₁) E s) (hs : ∀ x, foldedSetIterable iter env x = pure x := by intro _; rfl) :
    wpAny (model prog w) A (eval (.ListComp elt [⟨target, iter, ifs, 0⟩] scope pos) env) Q E s := by
  rw [eval_ListComp]
  exact wpAny_comprehension_free (use := none) rfl hs hclos hkind hnames h
theorem compA {y : PySem.Str} {py spos : Pos} {Q : Flow → Shared → Prop} (hsw : swapsWith (.ListComp elt [⟨target, iter, ifs, 0⟩] scope pos) (some (.Name y py)) spos.line env = pure true)
    (hclos : closureFor scope env = pure cl) (hkind : scope.kind = .function) (hnames : ∀ x ∈ scope.names, x.2 = .local → scope.names.lookup x.1 = some .local)
    (h : wpAny (model prog w) A (eval iter env) (fun xv s₁ => CompAt prog w A env cl elt target iter ifs scope pos (some (assign (.Name y py) env)) (fun _ s' => Q .next s') E xv s₁) E s) (hs : ∀ x, foldedSetIterable iter env x = pure x := by intro _; rfl) :
    wpAny (model prog w) A (exec (.Assign [.Name y py] (.ListComp elt [⟨target, iter, ifs, 0⟩] scope pos) spos) env) Q E s := by
  rw [exec_Assign_Name_used _ _ _ _ hsw]
  refine wpAny_bind (wpAny_standAt (wpAny_bind ?_))
  show wpAny _ A (do let _ ← comprehension (.ListComp elt [⟨target, iter, ifs, 0⟩] scope pos) scope env _ (newList []) false (eval iter env) (some (assign (.Name y py) env))) _ _ s
  exact wpAny_bind (wpAny_mono (wpAny_comprehension_free (use := some (assign (.Name y py) env)) (Q := fun _ s' => Q .next s') rfl hs hclos hkind hnames h) (fun _ s' hq => wpAny_pure (wpAny_pure hq)) fun _ _ e => e)

/-- what stands at a comprehension's end -/
theorem junk {C : Addr} {oC : Obj} {h' : Heap} (F : Fs b env m cm G ((C, oC) :: mu) s) (hX : C ∉ b.X) (hs : Heap.SameBut C s.heap h') : Fs b env m cm G mu { s with heap := h' } :=
  F.heap (F.f.upX hX fun a o q e => (hs.2 a q).trans e)
theorem Fs.notX' {C : Addr} (F : Fs b env m cm G mu s) (hC : s.heap.get? C = none) : C ∉ b.X := fun hx => by
  obtain ⟨p, hp, e⟩ := List.mem_map.mp (F.f.xin _ hx)
  have := (F.f.mus p hp).1
  rw [e, hC] at this; cases this

abbrev TurnC (prog : Program) (w : World) (A : Around) (b : Bs) (env : Env) (cm : Nm) (G : View) (elt target : PySem.Expr) (ifs : List PySem.Expr) (scope : Scope) (cl : List (PySem.Str × Addr)) (vs : List Value) (J : Nat → Nm → View → List Value → Prop) : Prop :=
  ∀ i v C b' m₁ G₁ mu₁ ys s₁ E₁, vs[i]? = some v → Le G G₁ → J i m₁ G₁ ys → b'.T = b.T → Fs b' (compEnvC scope cl C env) m₁ cm G₁ mu₁ s₁ →
      wpAny (model prog w) A (assign target (compEnvC scope cl C env) v) (fun _ s₂ => wpAny (model prog w) A (testsOf ifs (compEnvC scope cl C env)) (fun ok s₃ =>
        if ok = true then wpAny (model prog w) A (eval elt (compEnvC scope cl C env)) (fun y s₄ => E2 fun m₂ G₂ => A3 (Le G₁ G₂) (Fs b' (compEnvC scope cl C env) m₂ cm G₂ mu₁ s₄) (J (i + 1) m₂ G₂ (ys ++ [y]))) E₁ s₃
        else E2 fun m₂ G₂ => A3 (Le G₁ G₂) (Fs b' (compEnvC scope cl C env) m₂ cm G₂ mu₁ s₃) (J (i + 1) m₂ G₂ ys)) E₁ s₂) E₁ s₁

theorem compL {Q : Value → Shared → Prop} {l : Addr} {vs : List Value} {use : Option (Value → Sem Unit)} (hh : A.handled = none) (F : Fs b env m cm G mu s) (hl : LstAt G l vs) (hz : vs.length ≤ 1000)
    (hgo : ∀ i I v (s : Shared) (Q : Unit → Shared → Prop) E, s.heap.IsListIter I l (i + 1) → vs[i]? = some v → Q () s → wpAny (model prog w) A (letOwnedTupleGo target (.ref I) v) Q E s)
    (hkind : scope.kind = .function) (hcell : ∀ x ∈ scope.names, x.2 ≠ .cell) (hsub : ∀ n c, (n, c) ∈ cl → (n, c) ∈ env.cells) (hap : cl.Pairwise fun x y => x.1 ≠ y.1 ∧ x.2 ≠ y.2)
    (J : Nat → Nm → View → List Value → Prop) (hJ : J 0 (fun _ => none) G []) (turn : TurnC prog w A b env cm G elt target ifs scope cl vs J)
    (done : ∀ D C oC m' G₁ G₂ ys k s', Le G G₁ → J vs.length m' G₁ ys → Le G₁ G₂ → G₂ D = some (seqObj "list" ys.toArray k) → s'.heap.Ns C m' → C ∉ b.X → Fs b env m cm G₂ ((C, oC) :: mu) s' → compPost (model prog w) A E use Q (.ref D) C (.ok .next) s') :
    CompAt prog w A env cl elt target iter ifs scope pos use Q E (.ref l) s := by
  obtain ⟨ol, hol, hc, nl, hd⟩ := id hl
  have hlt : l < s.heap.objs.size := Heap.lt_size (F.f.view _ _ hol)
  refine wpAny_pyIter_list (F.f.lstG hl) ?_
  have F' := F.heap (F.f.allocMu { cls := .type "list_iterator", data := .fields #[.ref l, .int 0 0] })
  refine compW (Z := fun acc C => compPost (model prog w) A E use Q acc C) (Walks.list hh s.heap.objs.size l (Nat.ne_of_lt hlt) vs.toArray) (by simpa using hz) (fun c hc => ⟨ol, by rw [List.mem_singleton.mp hc]; exact hol⟩) (fun i h st => let ⟨o, e, _⟩ := st.1; ⟨o, e⟩)
    (fun i v s Q E st hP q => hgo i _ v s Q E st.1 (by simpa using hP) q) hkind hcell hsub hap F (fresh_none s) F' (fun a o e => Heap.get?_push_of_some _ e) (Rest.put (Rest.refl s) _ _) ⟨⟨_, Heap.get?_push_size _ rfl, rfl, rfl⟩, (F.f.lstG hl).push _⟩ J hJ
    (fun i v C b' m₁ G₁ mu₁ ys s₁ E₁ hi hP => turn i v C b' m₁ G₁ mu₁ ys s₁ E₁ (by simpa using hP)) fun D C oC m' G₁ G₂ ys k s' le J' le' hD hn F2 => ?_
  refine done D C oC m' G₁ G₂ ys k s' le (by simpa using J') le' hD hn ?_ F2
  intro hx
  have hp := F2.f.mnd
  obtain ⟨p, hp', e⟩ := List.mem_map.mp (F.f.xin _ hx)
  simp only [List.map_cons, List.nodup_cons] at hp
  exact hp.1 (List.mem_map.mpr ⟨p, hp', e⟩)

/-- as a value -/
theorem compLe {Q : Value → Shared → Prop} {l : Addr} {vs : List Value} (hh : A.handled = none) (F : Fs b env m cm G mu s) (hl : LstAt G l vs) (hz : vs.length ≤ 1000)
    (hgo : ∀ i I v (s : Shared) (Q : Unit → Shared → Prop) E, s.heap.IsListIter I l (i + 1) → vs[i]? = some v → Q () s → wpAny (model prog w) A (letOwnedTupleGo target (.ref I) v) Q E s)
    (hkind : scope.kind = .function) (hcell : ∀ x ∈ scope.names, x.2 ≠ .cell) (hsub : ∀ n c, (n, c) ∈ cl → (n, c) ∈ env.cells) (hap : cl.Pairwise fun x y => x.1 ≠ y.1 ∧ x.2 ≠ y.2)
    (J : Nat → Nm → View → List Value → Prop) (hJ : J 0 (fun _ => none) G []) (turn : TurnC prog w A b env cm G elt target ifs scope cl vs J)
    (done : ∀ D m' G₁ G₂ ys s', Le G G₁ → J vs.length m' G₁ ys → Le G₁ G₂ → LstAt G₂ D ys → Fs b env m cm G₂ mu s' → Q (.ref D) s') :
    CompAt prog w A env cl elt target iter ifs scope pos none Q E (.ref l) s :=
  compL hh F hl hz hgo hkind hcell hsub hap J hJ turn fun D C oC m' G₁ G₂ ys k s' le J' le' hD hn hX F2 =>
    ⟨m', hn, fun h' hs => done D m' G₁ G₂ ys _ le J' le' ⟨_, hD, rfl, _, rfl⟩ (junk F2 hX hs)⟩
/-- told to a local name -/
theorem compLa {Q : Value → Shared → Prop} {y : PySem.Str} {py : Pos} {l : Addr} {vs : List Value} (hh : A.handled = none) (F : Fs b env m cm G mu s) (hl : LstAt G l vs) (hz : vs.length ≤ 1000)
    (hgo : ∀ i I v (s : Shared) (Q : Unit → Shared → Prop) E, s.heap.IsListIter I l (i + 1) → vs[i]? = some v → Q () s → wpAny (model prog w) A (letOwnedTupleGo target (.ref I) v) Q E s)
    (hkind : scope.kind = .function) (hcell : ∀ x ∈ scope.names, x.2 ≠ .cell) (hsub : ∀ n c, (n, c) ∈ cl → (n, c) ∈ env.cells) (hap : cl.Pairwise fun x y => x.1 ≠ y.1 ∧ x.2 ≠ y.2)
    (J : Nat → Nm → View → List Value → Prop) (hJ : J 0 (fun _ => none) G []) (turn : TurnC prog w A b env cm G elt target ifs scope cl vs J)
    (done : ∀ D m' G₁ G₂ ys s', Le G G₁ → J vs.length m' G₁ ys → Le G₁ G₂ → LstAt G₂ D ys → Fs b env (m.set y (.ref D)) cm G₂ mu s' → Q .none s')
    (hy : env.kindOf y = some .local := by rfl) (hp : (env.scope.kind == .class || (env.scope.kind == .module && env.locals != env.globals)) = false := by rfl) :
    CompAt prog w A env cl elt target iter ifs scope pos (some (assign (.Name y py) env)) Q E (.ref l) s :=
  compL hh F hl hz hgo hkind hcell hsub hap J hJ turn fun D C oC m' G₁ G₂ ys k s' le J' le' hD hn hX F2 => by
    refine asgName (storeL F2 (fun s3 F3 => ?_) hy hp)
    have e2 := (F2.f.mus (C, oC) (.head _)).1
    have e3 := (F3.f.mus (C, oC) (.head _)).1
    refine ⟨m', hn.at' fun o e => ?_, fun h' hs => done D m' G₁ G₂ ys _ le J' le' ⟨_, hD, rfl, _, rfl⟩ (junk F3 hX hs)⟩
    rw [e2] at e; cases e; exact e3
end
end Mine
end

/-! S1 -/
section
open PySem PySem.W PyProof.Rows
set_option Elab.async false
set_option maxRecDepth 100000
set_option maxHeartbeats 4000000
set_option linter.unusedVariables false
namespace Mine
section
variable {prog : Program} {w : World} {b : Bs} {env : Env} {m cm : Nm} {G G' : View} {mu pre post : Mu} {A : Around} {s : Shared} {E : Value → Shared → Prop}
/-- sorted, of a known list -/
theorem sortedL {l : Addr} {vs : List Value} {kf : Value → Int} {V : Value → Prop} {Q : Value → Shared → Prop} (F : Fs b env m cm G mu s) (hl : LstAt G l vs) (hV : ∀ v ∈ vs, V v) (h128 : vs.length < 128)
    (hK : ∀ A' D (s' : Shared), G D = none → (∀ a o, G a = some o → s'.heap.get? a = some o) → ∃ SKy : SKey prog w A' D s', SKy.kf = kf ∧ SKy.V = V)
    (h : ∀ D s' G' us, Le G G' → LstAt G' D us → us.Perm vs → us.Pairwise (fun x y => kf x ≤ kf y) → Fs b env m cm G' mu s' → Q (.ref D) s') : wpAny (model prog w) A (PySem.call (.builtin "sorted") [.ref l]) Q E s := by
  refine Calls.call_function_entry kind_sorted plain_sorted entry_sorted (args_sorted1 _) ?_
  unfold Builtin.«sorted»
  refine wpAny_bind (m := checkCount "sorted" 1 1 _) (wpAny_pure ?_)
  refine wpAny_bind (collect_list (F.f.lstG hl) ?_ (by rw [sizeLine_eq]; omega))
  refine wpAny_bind (wpAny_newList ?_ (by rw [sizeLine_eq]; omega))
  have hsz : ((s.heap.push (seqObj "list" #[] 0)).update s.heap.objs.size (Obj.mapSeq (· ++ vs.toArray))).objs.size = s.heap.objs.size + 1 := by
    rw [Heap.size_update, size_push']
  have hoL : (((s.heap.push (seqObj "list" #[] 0)).update s.heap.objs.size (Obj.mapSeq (· ++ vs.toArray))).push (seqObj "list" vs.toArray 0)).get? (s.heap.objs.size + 1) = some (seqObj "list" vs.toArray 0) := by
    rw [← hsz]; exact Heap.get?_push_size _ rfl
  have keep : ∀ b o, s.heap.get? b = some o → (((s.heap.push (seqObj "list" #[] 0)).update s.heap.objs.size (Obj.mapSeq (· ++ vs.toArray))).push (seqObj "list" vs.toArray 0)).get? b = some o := fun b o q => by
    have hlt : b < s.heap.objs.size := Heap.lt_size q
    exact Heap.get?_push_of_some _ ((Heap.get?_update_ne _ _ _ _ (Nat.ne_of_lt hlt)).trans (Heap.get?_push_of_some _ q))
  show wpAny _ _ _ _ _ { s with heap := ((s.heap.push (seqObj "list" #[] 0)).update s.heap.objs.size (Obj.mapSeq (· ++ vs.toArray))).push (seqObj "list" vs.toArray 0) }
  rw [hsz]
  generalize ((s.heap.push (seqObj "list" #[] 0)).update s.heap.objs.size (Obj.mapSeq (· ++ vs.toArray))).push (seqObj "list" vs.toArray 0) = h' at hoL keep
  have hn : s.heap.get? (s.heap.objs.size + 1) = none := Heap.get?_none_of_le (Nat.le_succ _)
  generalize s.heap.objs.size + 1 = D at hoL hn
  have F2 := newMu2 F hn (F.heap (F.f.up keep)) hoL
  refine wpAny_bind (wpAny_holding ?_)
  obtain ⟨SKy, ek, eV⟩ := hK (Around.under A.in1 (.builtin "list.sort" ⟨[.ref D], []⟩)) D { s with heap := h' } (F2.f.mus _ (.head _)).2.2.1 F2.f.view
  show wpAny _ _ (PySem.call (.builtin "list.sort") [.ref D]) _ _ _
  refine sortMK (pre := []) F2 SKy (fun v hv => by rw [eV]; exact hV v hv) h128 fun s3 us k hp hs F3 => ?_
  rw [ek] at hs
  obtain ⟨G', le, hG, F5⟩ := Fs.freezeNew F3 F hn
  exact wpAny_pure ⟨_, rfl, h D _ G' us le ⟨_, hG, rfl, _, rfl⟩ hp hs F5⟩
end
end Mine
end

/-! S3 -/
section
open PySem PySem.W PyProof.Rows
set_option Elab.async false
set_option maxRecDepth 100000
set_option maxHeartbeats 4000000
set_option linter.unusedVariables false
namespace Mine
section
variable {prog : Program} {w : World} {A : Around} {E : Value → Shared → Prop} {s : Shared}
theorem slicePart_of {v : Value} {k : Option Int} {Q : Option Int → Shared → Prop} (p : IsPart v k) (h : Q k s) : wpAny (model prog w) A (Builtin.Slice.slicePartIndex v) Q E s := by
  cases p with
  | none => exact slicePart_none h
  | int i t => exact slicePart_int h
theorem sliceApplied_of {sl : Addr} {vl vu : Value} {lo hi : Option Int} {n : Nat} {Q : Int × Int × Nat → Shared → Prop} (hs : s.heap.IsSliceOf sl vl vu .none) (pl : IsPart vl lo) (pu : IsPart vu hi)
    (h : Q ((Builtin.Slice.sliceAdjust lo hi 1 n).1, 1, Builtin.Slice.slicePlaces (Builtin.Slice.sliceAdjust lo hi 1 n).1 (Builtin.Slice.sliceAdjust lo hi 1 n).2 1) s) :
    wpAny (model prog w) A (Builtin.Slice.sliceApplied (.ref sl) (pure (n : Int))) Q E s := by
  obtain ⟨os, hos, hcs, hds⟩ := id hs
  unfold Builtin.Slice.sliceApplied Builtin.Slice.sliceFields
  refine wpAny_bind (wpAny_bind (wpAny_field hos hds (x := vl) rfl (wpAny_bind (wpAny_field hos hds (x := vu) rfl (wpAny_bind (wpAny_field hos hds (x := .none) rfl (wpAny_pure ?_)))))))
  refine wpAny_bind (slicePart_none ?_)
  show wpAny _ _ (if ((1 : Int) == 0) = true then _ else _) _ _ s
  rw [if_neg (by decide)]
  refine wpAny_bind (slicePart_of pl (wpAny_bind (slicePart_of pu (wpAny_bind (wpAny_pure ?_)))))
  exact wpAny_pure h
def pickT (vs : List Value) (lo hi : Option Int) : List Value :=
  (List.range (Builtin.Slice.slicePlaces (Builtin.Slice.sliceAdjust lo hi 1 vs.length).1 (Builtin.Slice.sliceAdjust lo hi 1 vs.length).2 1)).filterMap fun (k : Nat) => vs.toArray[((Builtin.Slice.sliceAdjust lo hi 1 vs.length).1 + (k : Int) * 1).toNat]?
theorem pickT_all {vs : List Value} {lo hi : Option Int} (h0 : (Builtin.Slice.sliceAdjust lo hi 1 vs.length).1 = 0) (h1 : Builtin.Slice.slicePlaces (Builtin.Slice.sliceAdjust lo hi 1 vs.length).1 (Builtin.Slice.sliceAdjust lo hi 1 vs.length).2 1 = vs.length) : pickT vs lo hi = vs := by
  unfold pickT
  rw [h1, h0]
  have := pick_run vs.toArray 0 vs.length
  rw [List.filterMap_map] at this
  have e : (fun (k : Nat) => vs.toArray[((0 : Int) + (k : Int) * 1).toNat]?) = ((fun x => vs.toArray[x]?) ∘ fun x => 0 + x) := by
    funext k
    show vs.toArray[((0 : Int) + (k : Int) * 1).toNat]? = vs.toArray[0 + k]?
    rw [show ((0 : Int) + (k : Int) * 1).toNat = 0 + k by lia]
  rw [e, this]; simp
theorem getItem_tuple_part {t sl : Addr} {vs : List Value} {vl vu : Value} {lo hi : Option Int} {Q : Value → Shared → Prop} (ht : IsTup s.heap t vs.toArray) (hs : s.heap.IsSliceOf sl vl vu .none) (pl : IsPart vl lo) (pu : IsPart vu hi) (hz : vs.length ≤ 1000)
    (h1 : pickT vs lo hi = vs → Q (.ref t) s) (h2 : Q (.ref s.heap.objs.size) { s with heap := s.heap.push { cls := .type "tuple", data := .seq (pickT vs lo hi).toArray } }) : wpAny (model prog w) A (getItem (.ref t) (.ref sl)) Q E s := by
  have hdrop : sizeOk (.seq (pickT vs lo hi).toArray) := by
    show (pickT vs lo hi).toArray.size ≤ sizeLine
    rw [List.size_toArray, sizeLine_eq]
    unfold pickT
    refine Nat.le_trans (List.length_filterMap_le ..) ?_
    rw [List.length_range]
    unfold Builtin.Slice.slicePlaces Builtin.Slice.sliceAdjust
    have l1 : ¬ ((1 : Int) < 0) := by lia
    have l2 : (1 : Int) > 0 := by lia
    simp only [l1, l2, if_false, if_true, Int.ediv_one]
    cases lo <;> cases hi <;> dsimp only <;> (repeat' split) <;> lia
  obtain ⟨os, hos, hcs, hds⟩ := id hs
  have hTs : s.TypeIs (.ref sl) "slice" := ⟨os, hos, hcs⟩
  unfold getItem
  try with_reducible refine wpAny_holding ?_
  first | refine wpAny_bind (wpAny_pure ?_) | skip
  refine wpAny_bind (wpAny_sequenceKey ht.typeIs (by decide) ?_)
  refine wpAny_bind (wpAny_callSpecial?_slot (name := Str.ofString "__getitem__") ht.typeIs slot_tuple_getitem
    (wpAny_call_entry slot_tuple_getitem ht.typeIs entry_tuple_getitem ?_ (args_tuple_getitem _ _)))
  show wpAny _ _ (Builtin.Tuple.tupleItemsOf (.ref t) >>= _) _ _ s
  refine wpAny_bind (tupleItemsOf_ ht ?_)
  refine wpAny_bind (wpAny_typeOf hTs ?_)
  rw [if_pos (by decide)]
  refine wpAny_bind ?_
  rw [show ((vs.toArray.size : Nat) : Int) = (vs.length : Nat) by simp]
  refine sliceApplied_of hs pl pu ?_
  dsimp only
  have fresh : wpAny (model prog w) A.in1 (do ret (← Builtin.Tuple.tupleExact (pickT vs lo hi).toArray)) (fun fin s' => ∃ v, fin = .done (.ret v) ∧ wpAny (model prog w) A (pure v) Q E s') E s :=
    wpAny_bind (m := Builtin.Tuple.tupleExact _) (wpAny_newObj_type (wpAny_pure ⟨_, rfl, wpAny_pure h2⟩) hdrop)
  split
  · rename_i hc
    simp only [Bool.and_eq_true, beq_iff_eq, List.size_toArray] at hc
    obtain ⟨⟨c1, _⟩, c2⟩ := hc
    unfold Builtin.Tuple.tupleIsExact
    refine wpAny_bind (wpAny_bind (wpAny_typeOf ht.typeIs (wpAny_pure ?_)))
    rw [if_pos (by decide)]
    exact wpAny_bind (wpAny_rule (wpAny_pure ⟨_, rfl, wpAny_pure (h1 (pickT_all c1 c2))⟩))
  · exact fresh
end

section
variable {prog : Program} {w : World} {b : Bs} {env : Env} {m cm : Nm} {G : View} {mu : Mu} {A : Around} {s : Shared} {E : Value → Shared → Prop}
theorem evSlice {lower upper : Option Expr} {p : Pos} {Q : Value → Shared → Prop}
    (h : wpAny (model prog w) A (evalPart lower env) (fun l s₁ => wpAny (model prog w) A (evalPart upper env) (fun u s₃ =>
      Q (.ref s₃.heap.objs.size) { s₃ with heap := s₃.heap.push { cls := .type "slice", data := .fields #[l, u, .none] } }) E s₁) E s) :
    wpAny (model prog w) A (eval (.Slice lower upper none p) env) Q E s :=
  wpAny_Slice (wpAny_mono h (fun l s₁ h₁ => wpAny_mono h₁ (fun u s₂ h₂ => wpAny_evalPart_none h₂) fun _ _ e => e) fun _ _ e => e)
/-- a tuple's slice -/
theorem sliceT {value slice : PySem.Expr} {t : Addr} {vs : List Value} {vl vu : Value} {lo hi : Option Int} {ops : List Value} {Q : Value → Shared → Prop} (F : Fs b env m cm G mu s) (ht : TupAt G t vs) (pl : IsPart vl lo) (pu : IsPart vu hi) (hz : vs.length ≤ 1000)
    (h : ∀ a s' G', Le G G' → TupAt G' a (pickT vs lo hi) → Fs b env m cm G' mu s' → Q (.ref a) s')
    (hs : subscripted slice false (.ref t) (.ref s.heap.objs.size) = operate ops (getItem (.ref t) (.ref s.heap.objs.size)) := by with_unfolding_all rfl) :
    wpAny (model prog w) A (subscriptTail value slice (.ref t) (.ref s.heap.objs.size)) Q E { s with heap := s.heap.push { cls := .type "slice", data := .fields #[vl, vu, .none] } } := by
  have ht0 : IsTup s.heap t vs.toArray := let ⟨n, e⟩ := ht; ⟨_, F.f.view _ _ e, rfl, n, rfl⟩
  have ht' : IsTup (s.heap.push { cls := .type "slice", data := .fields #[vl, vu, .none] }) t vs.toArray := ht0.keeps fun _ _ e => Heap.get?_push_of_some _ e
  obtain ⟨F1, le1⟩ := F.f.alloc { cls := .type "slice", data := .fields #[vl, vu, .none] }
  have F1 := F.heap F1
  obtain ⟨F2, le2⟩ := F1.f.alloc (tupO (pickT vs lo hi))
  refine tail_any (s := { s with heap := s.heap.push { cls := .type "slice", data := .fields #[vl, vu, .none] } }) ht'.typeIs slot_tuple_getitem.lookup
    (getItem_tuple_part ht' (Heap.IsSliceOf.new ..) pl pu hz (fun e => ?_) ?_) hs
  · exact h t _ _ le1 (by rw [e]; exact ht.mono le1) F1
  · exact h _ _ _ (le1.trans le2) ⟨_, ext_self ..⟩ (F1.heap F2)
/-- a list's slice: a new list -/
theorem sliceLm {value slice : PySem.Expr} {l : Addr} {vs : List Value} {vl vu : Value} {lo hi : Option Int} {ops : List Value} {Q : Value → Shared → Prop} (F : Fs b env m cm G mu s) (hl : s.heap.IsList l vs.toArray) (pl : IsPart vl lo) (pu : IsPart vu hi) (hz : vs.length ≤ 1000)
    (h : ∀ a s' G', Le G G' → G a = none → Fs b env m cm G' ((a, PySem.W.listOf (slicePick vs.toArray lo hi none) 0) :: mu) s' → Q (.ref a) s')
    (hs : subscripted slice false (.ref l) (.ref s.heap.objs.size) = operate ops (getItem (.ref l) (.ref s.heap.objs.size)) := by with_unfolding_all rfl) :
    wpAny (model prog w) A (subscriptTail value slice (.ref l) (.ref s.heap.objs.size)) Q E { s with heap := s.heap.push { cls := .type "slice", data := .fields #[vl, vu, .none] } } := by
  obtain ⟨F1, le1⟩ := F.f.alloc { cls := .type "slice", data := .fields #[vl, vu, .none] }
  have F1 := F.heap F1
  have F2 := F1.f.allocMu (PySem.W.listOf (slicePick vs.toArray lo hi none) 0)
  refine tail_any (Heap.IsList.typeIs (s := { s with heap := s.heap.push { cls := .type "slice", data := .fields #[vl, vu, .none] } }) (hl.push _)) list_getitem_lookup
    (wpAny_getItem_list_slice (hl.push _) (Heap.IsSliceOf.new ..) pl pu .none (by simp) ?_ (by rw [sizeLine_eq]; simp; lia)) hs
  refine h _ _ _ le1 ?_ (F1.heap F2)
  cases q : G (s.heap.push { cls := .type "slice", data := .fields #[vl, vu, .none] }).objs.size with
  | none => rfl
  | some o =>
    have := F.f.view _ _ q
    rw [Heap.size_push, Heap.get?_none_of_le (Nat.le_succ _)] at this; cases this
end
end Mine
end

/-! E1 -/
section
open PySem PySem.W PyProof.Rows
set_option Elab.async false
set_option maxRecDepth 100000
set_option maxHeartbeats 4000000
set_option linter.unusedVariables false
namespace Mine
section
variable {prog : Program} {w : World} {A : Around} {E : Value → Shared → Prop} {s : Shared}
/-- a tuple's iterator, asked within enumerate -/
theorem nextT {it t : Addr} {i : Nat} {Q : Value → Shared → Prop} (hit : s.heap.IsTupleIter it t i)
    (body : wpAny (model prog w) A.in1 (Builtin.«tuple_iterator.__next__» ⟨[.ref it], []⟩) (fun fin s' => ∃ v, fin = .done (.ret v) ∧ Q v s') E s) : wpAny (model prog w) A (Builtin.SmallTypes.nextOf (.ref it)) Q E s := by
  unfold Builtin.SmallTypes.nextOf
  refine wpAny_bind (wpAny_callSpecial?_slot (name := Str.ofString "__next__") hit.typeIs F.slot_tuple_iterator_next
    (wpAny_call_entry F.slot_tuple_iterator_next hit.typeIs F.entry_tuple_iterator_next ?_ (F.args_tuple_iterator_next_1 _)))
  refine wpAny_mono body (fun fin s' h => ?_) fun _ _ e => e
  obtain ⟨v, rfl, hq⟩ := h
  exact ⟨v, rfl, wpAny_pure hq⟩
/-- its fields and the tuple's items are read -/
theorem nextT_reads {it t : Addr} {i : Nat} {items : Array Value} {R : Fin → Shared → Prop} (hit : s.heap.IsTupleIter it t i) (ht : s.heap.IsTuple t items)
    (item : ∀ x, items[i]? = some x → ∀ h', h'.IsTupleIter it t (i + 1) → Heap.SameBut it s.heap h' → R (.done (.ret x)) { s with heap := h' })
    (done : items[i]? = none → A.handled = none ∧ ∀ h' e, Heap.ExtBut it s.heap h' → (∃ o, h'.get? e = some o ∧ o.cls = .type "StopIteration") → E (.ref e) { s with heap := h' }) :
    wpAny (model prog w) A (Builtin.«tuple_iterator.__next__» ⟨[.ref it], []⟩) R E s := by
  obtain ⟨o, ho, hc, hd⟩ := id hit
  obtain ⟨ol, hol, _, nl, hdl⟩ := ht
  show wpAny _ _ (field (.ref it) 0 >>= _) _ _ s
  refine wpAny_bind (wpAny_field ho hd (x := .ref t) rfl ?_)
  show wpAny _ _ (if (Value.ref t == Value.none) = true then _ else _) _ _ s
  rw [if_neg (show ¬ ((Value.ref t == Value.none) = true) from Bool.false_ne_true)]
  show wpAny _ _ (field (.ref it) 1 >>= _) _ _ s
  refine wpAny_bind (wpAny_field ho hd (x := .int i 0) rfl ?_)
  show wpAny _ _ (seqItems? (.ref t) >>= _) _ _ s
  refine wpAny_bind (wpAny_seqItems hol hdl ?_)
  cases hx : items[i]? with
  | some x =>
    simp only [Int.toNat_natCast, hx]
    refine wpAny_bind (wpAny_setField ho hd (by simp) (wpAny_pure (item x hx _ ?_ (Heap.SameBut.update ..))))
    exact ⟨_, Heap.get?_update_self _ ho (Obj.isFreed_of_fields (Obj.data_mapFields hd _)), (Obj.cls_mapFields ..).trans hc, by
      rw [Obj.data_mapFields hd]; simp [rawInt]⟩
  | none =>
    obtain ⟨hh, hE⟩ := done hx
    simp only [Int.toNat_natCast, hx]
    refine wpAny_bind (wpAny_rule (wpAny_bind (wpAny_setField ho hd (by simp) ?_)))
    show wpAny _ _ (newExc (.type "StopIteration") [] >>= _) _ _ _
    refine wpAny_bind ?_
    simp only [newExc, newTuple]
    refine wpAny_bind (wpAny_newObj_type ?_ (by size_fits))
    refine wpAny_bind (m := firstArgMember _ _) (wpAny_of_eq (a := Value.none) (by first | rfl | (simp only [firstArgMember]; rfl)) ?_)
    refine wpAny_newObj_type ?_ (by size_fits)
    simp only [raiseNew]
    refine wpAny_bind (wpAny_handled ?_)
    rw [hh]
    refine wpAny_bind (wpAny_pure (wpAny_throw ?_))
    exact hE _ _ (((Heap.SameBut.update ..).extBut.push _).push _) ⟨_, Heap.get?_push_size _ rfl, rfl⟩
end
theorem drawsT {prog : Program} {w : World} {A : Around} (hh : A.handled = none) (it t : Addr) (hne : t ≠ it) (items : Array Value) :
    Draws prog w A it [it, t] items.size (fun i v => items[i]? = some v) (fun i h => h.IsTupleIter it t i ∧ h.IsTuple t items) where
  live := fun _ _ st => let ⟨o, ho, _⟩ := st.1; ⟨o, ho⟩
  frame := fun _ h h' st hk => ⟨let ⟨o, ho, r⟩ := st.1; ⟨o, hk it (by simp) o ho, r⟩, let ⟨o, ho, r⟩ := st.2; ⟨o, hk t (by simp) o ho, r⟩⟩
  item := fun i s Q E hi st hQ => by
    refine nextT st.1 (nextT_reads st.1 st.2 (fun x hx h' hit' hs' => ⟨x, rfl, hQ x h' s.toks hx ⟨hit', st.2.extBut hs'.extBut hne⟩ hs'⟩) fun e => ?_)
    rw [Array.getElem?_eq_getElem hi] at e; cases e
  done := fun s Q E st hE => by
    refine nextT st.1 (nextT_reads st.1 st.2 (fun x hx => ?_) fun e => ⟨hh, hE⟩)
    rw [Array.getElem?_eq_none (Nat.le_refl _)] at hx; cases hx
theorem enumNewT (t : Addr) (items : Array Value) (n : Nat) :
    Meets (Builtin.«enumerate.__new__» ⟨[.type "enumerate", .ref t], []⟩) (fun _ R s => s.heap.get? t = some { cls := .type "tuple", data := .seq items n } ∧
      R (.ok (.ret (.ref (s.heap.push { cls := .type "tuple_iterator", data := .fields #[.ref t, .int 0 0] }).objs.size)))
        { s with heap := (s.heap.push { cls := .type "tuple_iterator", data := .fields #[.ref t, .int 0 0] }).push { cls := .type "enumerate", data := .fields #[.none, .bool false, .ref s.heap.objs.size, rawInt 0, .none, .none] } }) :=
  .of_wp fun prog w A R s h => by
    obtain ⟨hp, g, d, tk, os⟩ := s; obtain ⟨hl, h⟩ := h
    have hsub := sub_enumerate
    have hL : Heap.IsTuple (Shared.heap ⟨hp, g, d, tk, os⟩) t items := ⟨_, hl, rfl, n, rfl⟩
    wp_walk using AutoSeq1.wpAny_loadPart' hl
    refine wpAny_stack_any fun st => wpAny_pure ?_
    split
    · rename_i c _ _ _ _ _
      cases (c == Value.type "enumerate")
      · wp_walk using AutoSeq1.wpAny_loadPart' hl, wpAny_pyIter_tuple hL
        exact ⟨_, rfl, h⟩
      · wp_walk using AutoSeq1.wpAny_loadPart' hl, wpAny_pyIter_tuple hL
        exact ⟨_, rfl, h⟩
    · wp_walk using AutoSeq1.wpAny_loadPart' hl, wpAny_pyIter_tuple hL
      exact ⟨_, rfl, h⟩
section
variable {b : Bs} {env : Env} {m cm : Nm} {G G' : View} {mu : Mu} {h h' : Heap}
/-- two objects are changed, new ones come -/
theorem Fm.mut2 {a c : Addr} {o o' p p' : Obj} (F : Fm b env m cm G ((a, o) :: (c, p) :: mu) h) (hk : ∀ x y, x ≠ a → x ≠ c → h.get? x = some y → h'.get? x = some y) (ha : h'.get? a = some o') (hc : h'.get? c = some p')
    (le : Le G G') (hv : ∀ x y, G' x = some y → h'.get? x = some y) (hf : ∀ x y, G' x = some y → G x = some y ∨ h.get? x = none) : Fm b env m cm G' ((a, o') :: (c, p') :: mu) h' := by
  have A := F.mus (a, o) (.head _)
  have C := F.mus (c, p) (.tail _ (.head _))
  have nd := F.mnd
  simp only [List.map_cons, List.nodup_cons, List.mem_cons, not_or] at nd
  obtain ⟨⟨n1, n2⟩, n3, n4⟩ := nd
  have ne : ∀ q ∈ mu, q.1 ≠ a ∧ q.1 ≠ c := fun q hq => ⟨fun e => n2 (e ▸ List.mem_map_of_mem hq), fun e => n3 (e ▸ List.mem_map_of_mem hq)⟩
  have no : ∀ x, G x = none → (∃ y, h.get? x = some y) → G' x = none := fun x e1 e2 => by
    cases q : G' x with
    | none => rfl
    | some y =>
      obtain ⟨y', e2⟩ := e2
      rcases hf x y q with q' | q'
      · rw [e1] at q'; cases q'
      · rw [e2] at q'; cases q'
  have hb : ∀ x y, b.H.get? x = some y → x ∉ b.X → x ≠ a ∧ x ≠ c := fun x y e n => by
    constructor
    · rintro rfl
      rcases F.mfr (x, o) (.head _) with r | r
      · exact n r
      · simp only at r; rw [r] at e; cases e
    · rintro rfl
      rcases F.mfr (x, p) (.tail _ (.head _)) with r | r
      · exact n r
      · simp only at r; rw [r] at e; cases e
  have hL : ∃ y, h.get? env.locals = some y := let ⟨y, _, _, e, _⟩ := F.ns; ⟨y, e⟩
  refine ⟨?_, fun n d hd => ?_, fun n d hd => ⟨no d (F.nC n d hd).1 (let ⟨y, e, _⟩ := F.cell n d hd; ⟨y, e⟩), (F.nC n d hd).2⟩, F.apart, fun x y e => le x y (F.top x y e), F.above, hv, no _ F.nL hL, fun q hq => ?_, F.mnd, fun q hq => ?_, fun x hx => F.xin x hx, fun x y e n => hk x y (hb x y e n).1 (hb x y e n).2 (F.keep x y e n), fun x y e => ?_, F.old⟩
  · obtain ⟨y, es, ep, e, r⟩ := F.ns
    exact ⟨y, es, ep, hk _ _ (Ne.symm A.2.1) (Ne.symm C.2.1) e, r⟩
  · obtain ⟨y, e, r⟩ := F.cell n d hd
    exact ⟨y, hk _ _ (Ne.symm (A.2.2.2 n d hd)) (Ne.symm (C.2.2.2 n d hd)) e, r⟩
  · rcases List.mem_cons.mp hq with rfl | hq
    · exact ⟨ha, A.2.1, no _ A.2.2.1 ⟨_, A.1⟩, A.2.2.2⟩
    · rcases List.mem_cons.mp hq with rfl | hq
      · exact ⟨hc, C.2.1, no _ C.2.2.1 ⟨_, C.1⟩, C.2.2.2⟩
      · have M := F.mus q (.tail _ (.tail _ hq))
        exact ⟨hk _ _ (ne q hq).1 (ne q hq).2 M.1, M.2.1, no _ M.2.2.1 ⟨_, M.1⟩, M.2.2.2⟩
  · rcases List.mem_cons.mp hq with rfl | hq
    · exact F.mfr (a, o) (.head _)
    · rcases List.mem_cons.mp hq with rfl | hq
      · exact F.mfr (c, p) (.tail _ (.head _))
      · exact F.mfr q (.tail _ (.tail _ hq))
  · rcases hf x y e with q | q
    · exact F.gfr x y q
    · right
      cases r : b.H.get? x with
      | none => rfl
      | some y' =>
        by_cases hx : x ∈ b.X
        · obtain ⟨q', hq', e'⟩ := List.mem_map.mp (F.xin x hx)
          have := (F.mus q' hq').1
          rw [e', q] at this; cases this
        · rw [F.keep x y' r hx] at q; cases q
/-- two that are new since the start are changed and forgotten -/
theorem Fm.upX2 {a c : Addr} {o p : Obj} (F : Fm b env m cm G ((a, o) :: (c, p) :: mu) h) (hXa : a ∉ b.X) (hXc : c ∉ b.X) (hk : ∀ x y, x ≠ a → x ≠ c → h.get? x = some y → h'.get? x = some y) : Fm b env m cm G mu h' := by
  have A := F.mus (a, o) (.head _)
  have C := F.mus (c, p) (.tail _ (.head _))
  have nd := F.mnd
  simp only [List.map_cons, List.nodup_cons, List.mem_cons, not_or] at nd
  obtain ⟨⟨n1, n2⟩, n3, n4⟩ := nd
  have ne : ∀ q ∈ mu, q.1 ≠ a ∧ q.1 ≠ c := fun q hq => ⟨fun e => n2 (e ▸ List.mem_map_of_mem hq), fun e => n3 (e ▸ List.mem_map_of_mem hq)⟩
  have hb : ∀ x y, b.H.get? x = some y → x ≠ a ∧ x ≠ c := fun x y e => by
    constructor
    · rintro rfl
      rcases F.mfr (x, o) (.head _) with r | r
      · exact hXa r
      · simp only at r; rw [r] at e; cases e
    · rintro rfl
      rcases F.mfr (x, p) (.tail _ (.head _)) with r | r
      · exact hXc r
      · simp only at r; rw [r] at e; cases e
  have D := (F.drop hXa).drop hXc
  refine ⟨?_, fun n d hd => ?_, D.nC, D.apart, D.top, D.above, fun x y e => hk x y (fun q => by rw [q, A.2.2.1] at e; cases e) (fun q => by rw [q, C.2.2.1] at e; cases e) (D.view x y e), D.nL,
    fun q hq => ⟨hk _ _ (ne q hq).1 (ne q hq).2 (D.mus q hq).1, (D.mus q hq).2⟩, D.mnd, D.mfr, D.xin, fun x y e n => hk x y (hb x y e).1 (hb x y e).2 (D.keep x y e n), D.gfr, D.old⟩
  · obtain ⟨y, es, ep, e, r⟩ := F.ns
    exact ⟨y, es, ep, hk _ _ (Ne.symm A.2.1) (Ne.symm C.2.1) e, r⟩
  · obtain ⟨y, e, r⟩ := F.cell n d hd
    exact ⟨y, hk _ _ (Ne.symm (A.2.2.2 n d hd)) (Ne.symm (C.2.2.2 n d hd)) e, r⟩
end
section
variable {prog : Program} {w : World} {b : Bs} {env : Env} {m cm : Nm} {G : View} {mu : Mu} {A : Around} {s : Shared} {E : Value → Shared → Prop} {R : Result → Shared → Prop}
/-- a loop over enumerate of a known tuple -/
theorem loopE0 {elts : List PySem.Expr} {k : Nat} {pos : Pos} {body : List Stmt} {t : Addr} {vs : List Value} (hh : A.handled = none) (F : Fs b env m cm G mu s) (ht : TupAt G t vs)
    (J : Nat → Nm → Nm → View → Mu → Prop) (hJ : J 0 m cm G mu)
    (turn : ∀ (i : Nat) v u m₁ cm₁ G₁ mu₁ p q s₁ E₁, vs[i]? = some v → Le G G₁ → J i m₁ cm₁ G₁ mu₁ → Fs b env m₁ cm₁ G₁ (mu₁ ++ [p, q]) s₁ →
      wpAny (model prog w) A (assignInOrder ((assignEach elts env).map (·.2)) [.int (i : Nat) u, v]) (fun _ s₂ => wpAny (model prog w) A (execs body env) (fun f s₃ => match f with
        | .next | .cont => E4 fun m₂ cm₂ G₂ mu₂ => A3 (Le G₁ G₂) (Fs b env m₂ cm₂ G₂ (mu₂ ++ [p, q]) s₃) (J (i + 1) m₂ cm₂ G₂ mu₂)
        | .brk => R (.ok .next) s₃
        | .ret v => R (.ok (.ret v)) s₃) E₁ s₂) E₁ s₁)
    (done : ∀ m₁ cm₁ G₁ mu₁ s₁, Le G G₁ → J vs.length m₁ cm₁ G₁ mu₁ → Fs b env m₁ cm₁ G₁ mu₁ s₁ → R (.ok .next) s₁)
    (hn : (assignEach elts env).length = 2 := by rfl) (hstar : (assignEach elts env).findIdx? (·.1) = none := by rfl) : wpAny (model prog w) A (PySem.call (.type "enumerate") [.ref t]) (fun xv s₁ => wpAny (model prog w) A (pyIter xv) (fun it s₂ => codeAny (model prog w) A (.forLoop (.Tuple elts k pos) it body [] env) R s₂) E s₁) E s := by
  obtain ⟨n, hG⟩ := ht
  have hget := F.f.view _ _ hG
  have htl : t < s.heap.objs.size := Heap.lt_size hget
  refine callType_new PySem.F.called_enumerate (by decide) (PySem.F.typeCall_enumerate_1 _) (PySem.F.newCall_enumerate_1 _) (fun obj => PySem.F.args_object_init_2 obj _) PySem.F.entry_enumerate_new (enumNewT t vs.toArray n) ⟨hget, ?_⟩
  have F1 := F.heap (F.f.allocMu { cls := .type "tuple_iterator", data := .fields #[.ref t, .int 0 0] })
  have F2 := F1.heap (F1.f.allocMu { cls := .type "enumerate", data := .fields #[.none, .bool false, .ref s.heap.objs.size, rawInt 0, .none, .none] })
  have hz : (s.heap.push { cls := .type "tuple_iterator", data := .fields #[.ref t, .int 0 0] }).objs.size = s.heap.objs.size + 1 := Heap.size_push ..
  rw [show ({ s with heap := s.heap.push { cls := .type "tuple_iterator", data := .fields #[.ref t, .int 0 0] } } : Shared).heap.objs.size = s.heap.objs.size + 1 from hz] at F2
  have he : IsEnum ((s.heap.push { cls := .type "tuple_iterator", data := .fields #[.ref t, .int 0 0] }).push
      { cls := .type "enumerate", data := .fields #[.none, .bool false, .ref s.heap.objs.size, rawInt 0, .none, .none] }) (s.heap.objs.size + 1) s.heap.objs.size 0 .none := by
    have := Heap.get?_push_size (s.heap.push { cls := .type "tuple_iterator", data := .fields #[.ref t, .int 0 0] })
      (o := { cls := .type "enumerate", data := .fields #[.none, .bool false, .ref s.heap.objs.size, rawInt 0, .none, .none] }) rfl
    rw [hz] at this; exact this
  show _ ∧ _
  rw [hz]
  refine ⟨⟨_, he, rfl⟩, ?_⟩
  have hit : Heap.IsTupleIter ((s.heap.push { cls := .type "tuple_iterator", data := .fields #[.ref t, .int 0 0] }).push
      { cls := .type "enumerate", data := .fields #[.none, .bool false, .ref s.heap.objs.size, rawInt 0, .none, .none] }) s.heap.objs.size t 0 := ⟨_, Heap.get?_push_of_some _ (Heap.get?_push_size _ rfl), rfl, rfl⟩
  have htt : Heap.IsTuple ((s.heap.push { cls := .type "tuple_iterator", data := .fields #[.ref t, .int 0 0] }).push
      { cls := .type "enumerate", data := .fields #[.none, .bool false, .ref s.heap.objs.size, rawInt 0, .none, .none] }) t vs.toArray := ⟨_, Heap.get?_push_of_some _ (Heap.get?_push_of_some _ hget), rfl, n, rfl⟩
  have hX1 : s.heap.objs.size ∉ b.X := F.f.notX
  have hX2 : s.heap.objs.size + 1 ∉ b.X := by have := F1.f.notX; rwa [show ({ s with heap := s.heap.push { cls := .type "tuple_iterator", data := .fields #[.ref t, .int 0 0] } } : Shared).heap.objs.size = s.heap.objs.size + 1 from hz] at this
  refine wpAny_pyIter_enum he ?_
  have W := WalksT.enumerateD (drawsT (prog := prog) (w := w) (A := A.in1) hh s.heap.objs.size t (Nat.ne_of_lt htl) vs.toArray) (s.heap.objs.size + 1) (Nat.succ_ne_self _) (by
    intro hm
    rcases List.mem_cons.mp hm with e | hm
    · exact Nat.succ_ne_self _ e
    · exact absurd (List.mem_singleton.mp hm) (Nat.ne_of_gt (Nat.lt_succ_of_lt htl))) (.head _)
  have hne : s.heap.objs.size + 1 ≠ s.heap.objs.size := Nat.succ_ne_self _
  generalize s.heap.objs.size + 1 = e at *
  generalize s.heap.objs.size = I at *
  clear F1 hz
  show codeAny (model prog w) A _ R { s with heap := (s.heap.push { cls := .type "tuple_iterator", data := .fields #[.ref t, .int 0 0] }).push { cls := .type "enumerate", data := .fields #[.none, .bool false, .ref I, rawInt 0, .none, .none] } }
  replace F2 : Fs b env m cm G ((e, { cls := .type "enumerate", data := .fields #[.none, .bool false, .ref I, rawInt 0, .none, .none] }) :: (I, { cls := .type "tuple_iterator", data := .fields #[.ref t, .int 0 0] }) :: mu)
    { s with heap := (s.heap.push { cls := .type "tuple_iterator", data := .fields #[.ref t, .int 0 0] }).push { cls := .type "enumerate", data := .fields #[.none, .bool false, .ref I, rawInt 0, .none, .none] } } := F2
  generalize (s.heap.push { cls := .type "tuple_iterator", data := .fields #[.ref t, .int 0 0] }).push { cls := .type "enumerate", data := .fields #[.none, .bool false, .ref I, rawInt 0, .none, .none] } = h0 at *
  refine codeAny_forLoop_any (fun k s' => E7 fun i m₁ cm₁ G₁ mu₁ oe oi => A6 (Le G G₁) (Fs b env m₁ cm₁ G₁ ((e, oe) :: (I, oi) :: mu₁) s') (((∃ old, IsEnum s'.heap e I (i : Nat) old) ∧ s'.heap.IsTupleIter I t i ∧ s'.heap.IsTuple t vs.toArray)) (J i m₁ cm₁ G₁ mu₁) (i ≤ vs.length) (k = vs.length + 1 - i)) ?_ (vs.length + 1)
    ⟨0, m, cm, G, mu, _, _, Le.refl _, F2, ⟨⟨_, he⟩, hit, htt⟩, hJ, Nat.zero_le _, rfl⟩
  rintro k' s' ⟨i, m₁, cm₁, G₁, mu₁, oe, oi, le₁, F₁, st₁, J₁, hi, rfl⟩
  have hsz : vs.toArray.size = vs.length := by simp
  by_cases hlt : i < vs.length
  · refine W.item i _ _ _ (by omega) st₁ fun T vals h₂ tk₂ hPt hfresh hT mid hk₂ => ?_
    obtain ⟨u, v, hv, rfl⟩ := hPt
    have hTw := W.apart _ _ _ mid
    refine W.go elts k pos i T _ _ _ mid fun h₃ st₃ hk₃ => ?_
    obtain ⟨⟨old, he₃⟩, ⟨oi', hoi, hr⟩, htt₃⟩ := st₃
    have hT₃ : h₃.IsTuple T #[.int i u, v] := let ⟨oT, hoT, r⟩ := hT; ⟨oT, hk₃ T oT hTw hoT, r⟩
    have hkk : ∀ x y, x ≠ e → x ≠ I → s'.heap.get? x = some y → h₃.get? x = some y := fun x y q1 q2 ey =>
      hk₃ x y (by simp [q1, q2]) (hk₂ x y (by simp [q1, q2]) ey)
    have notE : ∀ x y, G₁ x = some y → x ≠ e ∧ x ≠ I := fun x y ey => by
      have M1 := (F₁.f.mus (e, oe) (.head _)).2.2.1
      have M2 := (F₁.f.mus (I, oi) (.tail _ (.head _))).2.2.1
      constructor
      · rintro rfl; rw [M1] at ey; cases ey
      · rintro rfl; rw [M2] at ey; cases ey
    have F₃ : Fs b env m₁ cm₁ G₁ ((e, _) :: (I, oi') :: mu₁) { s' with heap := h₃, toks := tk₂ } :=
      F₁.put (F₁.f.mut2 hkk he₃ hoi (Le.refl _) (fun x y ey => hkk x y (notE x y ey).1 (notE x y ey).2 (F₁.f.view x y ey)) fun _ _ ey => .inl ey) tk₂
    refine wpAny_assign_Tuple (items := #[.int i u, v]) hh hT₃ (by simpa using hn) hstar fun h₄ hs₄ => ?_
    have F₄ := F₃.heap (F₃.f.up fun a o ea => hs₄ a o (Nat.ne_of_lt (Heap.lt_size ea)) ea)
    refine wpAny_mono (turn i v u m₁ cm₁ G₁ mu₁ _ _ _ _ (by simpa using hv) le₁ J₁ (F₄.perm (by simpa using List.perm_append_comm (l₁ := [(e, _), (I, oi')]) (l₂ := mu₁)))) (fun _ s₅ h₅ => wpAny_mono h₅ (fun f s₆ h₆ => ?_) fun _ _ x => x) fun _ _ x => x
    have fin : (E4 fun m₂ cm₂ G₂ mu₂ => A3 (Le G₁ G₂) (Fs b env m₂ cm₂ G₂ (mu₂ ++ [(e, ({ cls := .type "enumerate", data := .fields #[.none, .bool false, .ref I, rawInt ((i + 1 : Nat) : Int), .none, old] } : Obj)), (I, oi')]) s₆) (J (i + 1) m₂ cm₂ G₂ mu₂)) →
        ∃ m, m < vs.length + 1 - i ∧ E7 fun i m₁ cm₁ G₁ mu₁ oe oi => A6 (Le G G₁) (Fs b env m₁ cm₁ G₁ ((e, oe) :: (I, oi) :: mu₁) s₆) (((∃ old, IsEnum s₆.heap e I (i : Nat) old) ∧ s₆.heap.IsTupleIter I t i ∧ s₆.heap.IsTuple t vs.toArray)) (J i m₁ cm₁ G₁ mu₁) (i ≤ vs.length) (m = vs.length + 1 - i) := by
      rintro ⟨m₂, cm₂, G₂, mu₂, le₂, F₆, J₆⟩
      refine ⟨vs.length + 1 - (i + 1), by omega, i + 1, m₂, cm₂, G₂, mu₂, _, oi', le₁.trans le₂, F₆.perm (by simpa using List.perm_append_comm (l₁ := mu₂) (l₂ := [(e, ({ cls := .type "enumerate", data := .fields #[.none, .bool false, .ref I, rawInt ((i + 1 : Nat) : Int), .none, old] } : Obj)), (I, oi')])), ⟨⟨old, (F₆.f.mus (e, _) (by simp)).1⟩, ⟨oi', (F₆.f.mus (I, oi') (by simp)).1, hr⟩, ⟨_, F₆.f.view _ _ (le₂ _ _ (le₁ _ _ hG)), rfl, n, rfl⟩⟩, J₆, hlt, rfl⟩
    cases f with
    | next => exact fin h₆
    | cont => exact fin h₆
    | brk => exact h₆
    | ret v => exact h₆
  · have hin : i = vs.length := by omega
    subst hin
    refine W.done _ _ _ (by rw [hsz]; exact st₁) fun h₂ tk₂ hk₂ => wpAny_execs_nil ?_
    exact done m₁ cm₁ G₁ mu₁ _ le₁ J₁ (F₁.put (F₁.f.upX2 hX2 hX1 fun x y q1 q2 e' => hk₂ x y (by simp [q1, q2]) e') tk₂)
theorem loopE {elts : List PySem.Expr} {k : Nat} {pos : Pos} {body : List Stmt} {t : Addr} {vs : List Value} (hh : A.handled = none) (F : Fs b env m cm G mu s) (ht : TupAt G t vs)
    (J : Nat → Nm → Nm → View → Mu → Prop) (hJ : J 0 m cm G mu)
    (turn : ∀ (i : Nat) v u m₁ cm₁ G₁ mu₁ p q s₁ E₁, vs[i]? = some v → Le G G₁ → J i m₁ cm₁ G₁ mu₁ → Fs b env m₁ cm₁ G₁ (mu₁ ++ [p, q]) s₁ → ∀ QQ : Flow → Shared → Prop, Lp QQ (fun s₃ => E4 fun m₂ cm₂ G₂ mu₂ => A3 (Le G₁ G₂) (Fs b env m₂ cm₂ G₂ (mu₂ ++ [p, q]) s₃) (J (i + 1) m₂ cm₂ G₂ mu₂)) (fun s₃ => R (.ok .next) s₃) (fun v s₃ => R (.ok (.ret v)) s₃) →
      wpAny (model prog w) A (assignInOrder ((assignEach elts env).map (·.2)) [.int (i : Nat) u, v]) (fun _ s₂ => wpAny (model prog w) A (execs body env) QQ E₁ s₂) E₁ s₁)
    (done : ∀ m₁ cm₁ G₁ mu₁ s₁, Le G G₁ → J vs.length m₁ cm₁ G₁ mu₁ → Fs b env m₁ cm₁ G₁ mu₁ s₁ → R (.ok .next) s₁)
    (hn : (assignEach elts env).length = 2 := by rfl) (hstar : (assignEach elts env).findIdx? (·.1) = none := by rfl) : wpAny (model prog w) A (PySem.call (.type "enumerate") [.ref t]) (fun xv s₁ => wpAny (model prog w) A (pyIter xv) (fun it s₂ => codeAny (model prog w) A (.forLoop (.Tuple elts k pos) it body [] env) R s₂) E s₁) E s :=
  loopE0 hh F ht J hJ (fun i v u m₁ cm₁ G₁ mu₁ p q s₁ E₁ a b c d => turn i v u m₁ cm₁ G₁ mu₁ p q s₁ E₁ a b c d _ ⟨fun s x => ⟨x, x⟩, fun s x => x, fun v s x => x⟩) done hn hstar
end
end Mine
end

/-! C3 -/
section
open PySem PySem.W PyProof.Rows
set_option Elab.async false
set_option maxRecDepth 100000
set_option maxHeartbeats 4000000
set_option linter.unusedVariables false
namespace Mine
section
variable {prog : Program} {w : World} {b : Bs} {env : Env} {m m' cm : Nm} {G G' : View} {mu mu' news : Mu} {A : Around} {s₀ s s' : Shared} {E : Value → Shared → Prop} {scope : Scope} {cl : List (PySem.Str × Addr)}
  {kx vx iter : PySem.Expr} {tx : PySem.Str} {px : Pos} {ifs : List PySem.Expr} {pos : Pos}
abbrev TurnD (prog : Program) (w : World) (A : Around) (b : Bs) (env : Env) (cm : Nm) (G : View) (kx vx : PySem.Expr) (tx : PySem.Str) (px : Pos) (ifs : List PySem.Expr) (scope : Scope) (cl : List (PySem.Str × Addr)) (P : Nat → Value → Prop) (J : Nat → Nm → View → List (Int × Value) → Prop) : Prop :=
  ∀ i v C b' m₁ G₁ mu₁ kvs s₁ E₁, P i v → Le G G₁ → J i m₁ G₁ kvs → b'.T = b.T → Fs b' (compEnvC scope cl C env) m₁ cm G₁ mu₁ s₁ →
      wpAny (model prog w) A (assign (.Name tx px) (compEnvC scope cl C env) v) (fun _ s₂ => wpAny (model prog w) A (testsOf ifs (compEnvC scope cl C env)) (fun ok s₃ =>
        if ok = true then wpAny (model prog w) A (eval kx (compEnvC scope cl C env)) (fun kv s₄ => wpAny (model prog w) A (eval vx (compEnvC scope cl C env)) (fun y s₅ =>
            E4 fun k t m₂ G₂ => A4 (kv = .int k t) (Le G₁ G₂) (Fs b' (compEnvC scope cl C env) m₂ cm G₂ mu₁ s₅) (J (i + 1) m₂ G₂ (stored kvs k y))) E₁ s₄) E₁ s₃
        else E2 fun m₂ G₂ => A3 (Le G₁ G₂) (Fs b' (compEnvC scope cl C env) m₂ cm G₂ mu₁ s₃) (J (i + 1) m₂ G₂ kvs)) E₁ s₂) E₁ s₁

theorem compDW {Z : Value → Addr → Result → Shared → Prop} {I : Addr} {oI : Obj} {fp : List Addr} {n : Nat} {P : Nat → Value → Prop} {St : Nat → Heap → Prop} (W : Walks prog w A I (I :: fp) [I] n P St) (hz : n ≤ 900)
    (hfp : ∀ c ∈ fp, ∃ o, G c = some o) (hal : ∀ i h, St i h → ∃ o, h.get? I = some o)
    (hsys : sysModules < b.T.objs.size)
    (hkind : scope.kind = .function) (hcell : ∀ x ∈ scope.names, x.2 ≠ .cell) (hsub : ∀ n c, (n, c) ∈ cl → (n, c) ∈ env.cells) (hap : cl.Pairwise fun x y => x.1 ≠ y.1 ∧ x.2 ≠ y.2)
    (F0 : Fs b env m cm G mu s₀) (hI : s₀.heap.get? I = none) (F : Fs b env m cm G ((I, oI) :: mu) s) (keep : ∀ a o, s₀.heap.get? a = some o → s.heap.get? a = some o) (hr : Rest s₀ s) (hst : St 0 s.heap)
    (J : Nat → Nm → View → List (Int × Value) → Prop) (hJ : J 0 (fun _ => none) G []) (turn : TurnD prog w A b env cm G kx vx tx px ifs scope cl (fun i v => i < n ∧ P i v) J)
    (done : ∀ D C oC m' G₁ G₂ kvs s', Le G G₁ → J n m' G₁ kvs → Le G₁ G₂ → DAt prog w G₂ D kvs → kvs.length ≤ n → s'.heap.Ns C m' → Fs b env m cm G₂ ((C, oC) :: mu) s' → Z (.ref D) C (.ok .next) s') :
    wpAny (model prog w) A newDict (fun acc s₃ => wpAny (model prog w) A (newFunctionEnv scope env.globals cl [] env.qual none .none (some env)) (fun cenv s₄ =>
      codeAny (model prog w) A (.compStart (.DictComp kx vx [⟨.Name tx px, iter, ifs, 0⟩] scope pos) 0 (.ref I) acc { cenv with scope := relabel scope env }) (Z acc cenv.locals) s₄) E s₃) E s := by
  refine wpAny_newObj_type (wpAny_newFunctionEnv hcell (by intro y hy; simp at hy) (fun h₁ hns₁ hsb₁ => ?_) hkind)
  dsimp only at hns₁ hsb₁ ⊢
  have FD := F.heap (F.f.allocMu { cls := .type "dict", dict := none, data := .dict #[] })
  have hDs := F.f.sys hsys
  have hD0 : s₀.heap.get? s.heap.objs.size = none := by
    cases q : s₀.heap.get? s.heap.objs.size with
    | none => rfl
    | some o => have := keep _ _ q; rw [fresh_none s] at this; cases this
  generalize hD : s.heap.objs.size = D at *
  have keep1 : ∀ a o, s.heap.get? a = some o → (s.heap.push { cls := .type "dict", dict := none, data := .dict #[] }).get? a = some o := fun a o e => Heap.get?_push_of_some _ e
  have hk1 : ∀ a o, (s.heap.push { cls := .type "dict", dict := none, data := .dict #[] }).get? a = some o → h₁.get? a = some o := fun a o e =>
    hsb₁.extBut a o (fun q => by
      have := Heap.lt_size e
      rw [q] at this; exact Nat.lt_irrefl _ this) (Heap.get?_push_of_some _ e)
  have nodef : (fun x : PySem.Str => List.lookup x ([] : List (PySem.Str × Value)).reverse) = fun _ => none := rfl
  rw [nodef] at hns₁
  have F1 := Fs.nest (scope := scope) (cl := cl) (news := [(D, { cls := .type "dict", dict := none, data := .dict #[] }), (I, oI)]) (tk := s.toks + ([] : List (PySem.Str × Value)).length) F0 FD (fun p hp => by
    rcases List.mem_cons.mp hp with rfl | hp
    · exact hD0
    · rw [List.mem_singleton.mp hp]; exact hI) (fun a o e => keep1 a o (keep a o e)) (hr.put _ _) hns₁ hk1 hsub hap
  have hst1 : St 0 h₁ := W.frame _ _ _ hst fun c _ o e => hk1 _ _ (keep1 _ _ e)
  generalize hC : ({ s with heap := s.heap.push { cls := .type "dict", dict := none, data := .dict #[] } } : Shared).heap.objs.size = C at F1
  have hC0 : s₀.heap.get? C = none := by
    cases q : s₀.heap.get? C with
    | none => rfl
    | some o =>
      have := keep1 _ _ (keep _ _ q)
      rw [← hC, show ({ s with heap := s.heap.push { cls := .type "dict", dict := none, data := .dict #[] } } : Shared).heap = s.heap.push { cls := .type "dict", dict := none, data := .dict #[] } from rfl, Heap.get?_none_of_le (Nat.le_refl _)] at this; cases this
  have hnew : IsD prog w { cls := .type "dict", dict := none, data := .dict #[] } [] := ⟨#[], 0, ⟨rfl, rfl, rfl⟩, rfl, (by intro e he; simp at he), .nil, by simp⟩
  have loop : codeAny (model prog w) A (.compLoop (.DictComp kx vx [⟨.Name tx px, iter, ifs, 0⟩] scope pos) 0 (.ref I) (.ref D) (compEnvC scope cl C env)) (Z (.ref D) C) { s with heap := h₁, toks := s.toks + ([] : List (PySem.Str × Value)).length } := by
    refine codeAny_compLoop_testsD (fun k s' => E6 fun i m₁ G₁ kvs oD oI => A8 (Le G G₁) (Fs ⟨b.T, s₀, G, []⟩ (compEnvC scope cl C env) m₁ cm G₁ [(D, oD), (I, oI)] s') (IsD prog w oD kvs) (St i s'.heap) (J i m₁ G₁ kvs) (i ≤ n) (kvs.length ≤ i) (k = n + 1 - i)) ?_ (n + 1)
      ⟨0, _, G, [], _, oI, Le.refl _, F1, hnew, hst1, hJ, Nat.zero_le _, Nat.le_refl _, rfl⟩
    rintro k s' ⟨i, m₁, G₁, kvs, oD, oI, le₁, F₁, isD, st₁, J₁, hi, hy, rfl⟩
    by_cases hlt : i < n
    · refine W.item i _ _ _ hlt st₁ fun v h₂ tk₂ hP st₂ hk₂ => ?_
      obtain ⟨oI', ho'⟩ := hal _ _ st₂
      have hk₂' : ∀ a o, a ≠ I → s'.heap.get? a = some o → h₂.get? a = some o := fun a o q e => hk₂ a o (by simpa using q) e
      have M := F₁.f.mus (I, oI) (.tail _ (.head _))
      have F₂ : Fs ⟨b.T, s₀, G, []⟩ (compEnvC scope cl C env) m₁ cm G₁ [(D, oD), (I, oI')] { s' with heap := h₂, toks := tk₂ } := F₁.put (Fm.mutN (pre := [_]) F₁.f (by
        obtain ⟨o, es, ep, e, r⟩ := F₁.f.ns
        exact ⟨o, es, ep, hk₂' _ _ (Ne.symm M.2.1) e, r⟩) (fun c x q _ e => hk₂' c x q e) ho') tk₂
      have again : ∀ {m₂ : Nm} {G₂ : View} {kvs' : List (Int × Value)} {oD' : Obj} {s₄ : Shared}, Le G₁ G₂ → Fs ⟨b.T, s₀, G, []⟩ (compEnvC scope cl C env) m₂ cm G₂ [(D, oD'), (I, oI')] s₄ → IsD prog w oD' kvs' → J (i + 1) m₂ G₂ kvs' → kvs'.length ≤ i + 1 →
          ∃ k', k' < n + 1 - i ∧ E6 fun i m₁ G₁ kvs oD oI => A8 (Le G G₁) (Fs ⟨b.T, s₀, G, []⟩ (compEnvC scope cl C env) m₁ cm G₁ [(D, oD), (I, oI)] s₄) (IsD prog w oD kvs) (St i s₄.heap) (J i m₁ G₁ kvs) (i ≤ n) (kvs.length ≤ i) (k' = n + 1 - i) := by
        intro m₂ G₂ kvs' oD' s₄ le₂ F₄ isD' J₄ hy'
        refine ⟨n + 1 - (i + 1), by lia, i + 1, m₂, G₂, kvs', oD', oI', le₁.trans le₂, F₄, isD', W.frame _ _ _ st₂ fun c hc o e => ?_, J₄, hlt, hy', rfl⟩
        rcases List.mem_cons.mp hc with rfl | hc
        · rw [ho'] at e; cases e
          exact (F₄.f.mus (c, oI') (.tail _ (.head _))).1
        · obtain ⟨oc, ec⟩ := hfp c hc
          have e1 := F₂.f.view _ _ (le₁ _ _ ec)
          rw [show ({ s' with heap := h₂, toks := tk₂ } : Shared).heap = h₂ from rfl] at e1
          rw [e] at e1; cases e1
          exact F₄.f.view _ _ (le₂ _ _ (le₁ _ _ ec))
      refine wpAny_mono (turn i v C ⟨b.T, s₀, G, []⟩ m₁ G₁ _ kvs _ _ ⟨hlt, hP⟩ le₁ J₁ rfl F₂) (fun _ s₃ h₃ => wpAny_mono h₃ (fun ok s₄ h₄ => ?_) fun _ _ e => e) fun _ _ e => e
      cases ok with
      | false =>
        obtain ⟨m₂, G₂, le₂, F₄, J₄⟩ := h₄
        exact again le₂ F₄ isD J₄ (by lia)
      | true =>
        refine wpAny_mono (show wpAny (model prog w) A (eval kx (compEnvC scope cl C env)) _ _ s₄ from h₄) (fun kv s₅ h₅ => wpAny_mono h₅ (fun y s₆ h₆ => ?_) fun _ _ e => e) fun _ _ e => e
        obtain ⟨kk, tt, m₂, G₂, rfl, le₂, F₆, J₆⟩ := h₆
        refine wpAny_dictSet_pairs (knd := intKind prog w) (intKind_is prog w kk tt) (F₆.f.dctM (.head _) isD) (fun h' hd' hs => ?_) (by rw [sizeLine_eq]; lia)
        obtain ⟨o', ho', r⟩ := Heap.dictOf_iff.mp hd'
        refine again le₂ (F₆.put (F₆.f.mut (pre := []) hs ho') _) r J₆ ?_
        have := stored_length_le kvs kk y; lia
    · have hin : i = n := by lia
      subst hin
      refine W.done _ _ _ st₁ fun h₂ tk₂ hk₂ => ?_
      have F₂ : Fs ⟨b.T, s₀, G, []⟩ (compEnvC scope cl C env) m₁ cm G₁ [(D, oD)] { s' with heap := h₂, toks := tk₂ } :=
        F₁.put (Fm.upX (F₁.f.perm (List.Perm.swap _ _ _)) (fun h => nomatch h) fun a o q e => hk₂ a o (by simpa using q) e) tk₂
      obtain ⟨F₃, le₃⟩ := F₂.f.freeze hD0 (fun h => nomatch h)
      obtain ⟨oC, hoC, F₄⟩ := Fs.unnest (mu' := []) F0 hC0 ⟨F₃, F₂.r⟩ (le₁.trans le₃)
      exact done D C oC m₁ G₁ _ kvs _ le₁ J₁ le₃ ⟨hDs, oD, ext_self .., isD⟩ hy F₃.ns F₄
  refine codeAny_compStart_dict loop (W.self 0 _ _ _ hst1 loop)

/-- a dict comprehension over a known list, as a value -/
theorem compDe {Q : Value → Shared → Prop} (hh : A.handled = none) (hsys : sysModules < b.T.objs.size)
    (hclos : closureFor scope env = pure cl) (hkind : scope.kind = .function) (hnames : ∀ x ∈ scope.names, x.2 = .local → scope.names.lookup x.1 = some .local) (hcell : ∀ x ∈ scope.names, x.2 ≠ .cell) (hsub : ∀ n c, (n, c) ∈ cl → (n, c) ∈ env.cells) (hap : cl.Pairwise fun x y => x.1 ≠ y.1 ∧ x.2 ≠ y.2)
    (h : wpAny (model prog w) A (eval iter env) (fun xv s₁ => ∃ l vs m cm G mu, xv = .ref l ∧ Fs b env m cm G mu s₁ ∧ LstAt G l vs ∧ vs.length ≤ 900 ∧ ∃ J : Nat → Nm → View → List (Int × Value) → Prop, J 0 (fun _ => none) G [] ∧
      TurnD prog w A b env cm G kx vx tx px ifs scope cl (fun i v => vs[i]? = some v) J ∧
      ∀ D m' G₁ G₂ kvs s', Le G G₁ → J vs.length m' G₁ kvs → Le G₁ G₂ → DAt prog w G₂ D kvs → kvs.length ≤ vs.length → Fs b env m cm G₂ mu s' → Q (.ref D) s') E s) (hs : ∀ x, foldedSetIterable iter env x = pure x := by intro _; rfl) :
    wpAny (model prog w) A (eval (.DictComp kx vx [⟨.Name tx px, iter, ifs, 0⟩] scope pos) env) Q E s := by
  rw [arm_eval_DictComp]
  refine wpAny_comprehension_free (use := none) rfl hs hclos hkind hnames (wpAny_mono h (fun xv s₁ h₁ => ?_) fun _ _ e => e)
  obtain ⟨l, vs, m, cm, G, mu, rfl, F, hl, hz, J, hJ, turn, done⟩ := h₁
  obtain ⟨ol, hol, hc, nl, hd⟩ := id hl
  have hlt : l < s₁.heap.objs.size := Heap.lt_size (F.f.view _ _ hol)
  refine wpAny_pyIter_list (F.f.lstG hl) ?_
  have F' := F.heap (F.f.allocMu { cls := .type "list_iterator", data := .fields #[.ref l, .int 0 0] })
  refine compDW (Z := fun acc C => compPost (model prog w) A E none Q acc C) (Walks.list hh s₁.heap.objs.size l (Nat.ne_of_lt hlt) vs.toArray) (by simpa using hz) (fun c hc => ⟨ol, by rw [List.mem_singleton.mp hc]; exact hol⟩) (fun i h st => let ⟨o, e, _⟩ := st.1; ⟨o, e⟩) hsys
    hkind hcell hsub hap F (fresh_none s₁) F' (fun a o e => Heap.get?_push_of_some _ e) (Rest.put (Rest.refl s₁) _ _) ⟨⟨_, Heap.get?_push_size _ rfl, rfl, rfl⟩, (F.f.lstG hl).push _⟩ J hJ
    (fun i v C b' m₁ G₁ mu₁ kvs s₁ E₁ hi => turn i v C b' m₁ G₁ mu₁ kvs s₁ E₁ (by simpa using hi.2)) fun D C oC m' G₁ G₂ kvs s' le J' le' hD hk hn F2 => ?_
  have hX : C ∉ b.X := by
    intro hx
    have hp := F2.f.mnd
    obtain ⟨p, hp', e⟩ := List.mem_map.mp (F.f.xin _ hx)
    simp only [List.map_cons, List.nodup_cons] at hp
    exact hp.1 (List.mem_map.mpr ⟨p, hp', e⟩)
  exact ⟨m', hn, fun h' hs => done D m' G₁ G₂ kvs _ le (by simpa using J') le' hD (by simpa using hk) (junk F2 hX hs)⟩
end
end Mine
end

section
open PySem PySem.W PyProof.Rows PySem.SeqAt
set_option Elab.async false
set_option maxRecDepth 100000
set_option maxHeartbeats 4000000
set_option linter.unusedVariables false
namespace Mine

/-! F0 -/
section
noncomputable abbrev KK (w : World) : Frag := hd.heap_39 w.params
abbrev PR : Program := PySem.Challenge.rw_on0309_01.row.prog
/-- the well: numbers, at, stir -/
inductive WellAt (G : View) (o : Obj) : Prop
  | mk (n : Addr) (ns : List Value) (as st : Int) (t1 t2 : Tok) (_ : IsL o [.ref n, .int as t1, .int st t2]) (_ : LstAt G n ns) (_ : ∀ v ∈ ns, ∃ i t, v = Value.int i t) (_ : 0 ≤ as) (_ : ns.length < 1000)

section
variable {w : World} {T : Heap} {A : Around} {G : View}
set_option pp.deepTerms false
set_option pp.deepTerms.threshold 3
set_option pp.maxSteps 1500
theorem draw_ok {well : Addr} {o : Obj} {size : Int} {t : Tok} (C : Cx (KK w) T) (hA : Ok A 3) (hw : WellAt G o) (hs : 0 < size) :
    Calls PR w T A (.ref 139) [.ref well, .int size t] G [(well, o)] (fun G' mu' v => ∃ o' r t', mu' = [(well, o')] ∧ WellAt G' o' ∧ v = .int r t' ∧ 0 ≤ r ∧ r < size) := by
  refine Calls.of_def C (binds := [("well", .ref well), ("size", .int size t)]) hA (by with_unfolding_all rfl) (by with_unfolding_all rfl) (by with_unfolding_all rfl) ?_ ?_ ?_
  · intro n x hx
    left
    simp only [List.mem_cons, List.not_mem_nil, or_false] at hx
    rcases hx with rfl | rfl <;> rfl
  · decide
  · clear hA; intro S L s A hA Q E F ret
    obtain ⟨n, ns, as, st, t1, t2, ho, hn, hi, ha0, hlen⟩ := hw
    (refine execsK ?_; intro _ _ _)
    (refine Assign_Tuple ?_)
    (refine nameL F (by first | rfl | assumption) ?_)
    refine unpackL hA.handled F (F.f.lstM (.head _) ho) (by rfl) (by rfl) ?_
    clear F; intro s F
    (refine inOrder_cons ?_; (with_reducible refine asgName ?_); refine storeL F ?_; clear F; intro s F; refine inOrder_cons ?_; (with_reducible refine asgName ?_); refine storeL F ?_; clear F; intro s F; refine inOrder_cons ?_; (with_reducible refine asgName ?_); refine storeL F ?_; clear F; intro s F; refine inOrder_nil ?_; (with_reducible refine next_ (by assumption) ?_); refine execsK ?_; intro _ _ _; (with_reducible refine wpAny_Assign_Name ?_ (by with_unfolding_all (intros; rfl))); (with_reducible refine wpAny_IfExp ?_); (with_reducible refine wpAny_isTrue_Compare1 ?_ (by with_unfolding_all (intros; rfl))); refine nameL F (by first | rfl | assumption) ?_; (with_reducible refine Call_ ?_ (by with_unfolding_all (intros; rfl))); refine nameB C F (by rfl) (by first | with_reducible exact PySem.boot_len | with_reducible exact PyProof.Rows.boot_range | with_reducible exact PyProof.Rows.boot_sorted | with_reducible exact PyProof.Rows.boot_list | with_reducible exact PyProof.Rows.boot_enumerate) (by decide) ?_; (with_reducible refine PyProof.Rows.callWith_builtin1 ?_ (by with_unfolding_all (intros; rfl)) (by with_unfolding_all (intros; rfl))); (with_reducible refine wpAny_items_cons ?_ (by with_unfolding_all (intros; rfl))); refine nameL F (by first | rfl | assumption) ?_; (with_reducible refine wpAny_items_nil ?_))
    refine lenL F (F.f.lstG hn) (by omega) ?_
    clear F; intro t s F
    ((with_reducible refine lt_int ?_); (with_reducible refine wpAny_truthy_bool ?_))
    refine joinF F (fun v => ∃ i t, v = .int i t) (fun hc => ?_) (fun hc => ?_) ?_
    · ((with_reducible refine Subscript_ ?_); refine nameL F (by first | rfl | assumption) ?_; refine nameL F (by first | rfl | assumption) ?_)
      have hlt : as.toNat < ns.length := by simp at hc; omega
      obtain ⟨i, ti, hx⟩ := hi _ (List.getElem_mem hlt)
      exact itemL (F.f.lstG hn) ha0 (by omega) (List.getElem?_eq_getElem hlt) ⟨⟨i, ti, hx⟩, F⟩
    · (refine nameL F (by first | rfl | assumption) ?_)
      exact ⟨⟨_, _, rfl⟩, F⟩
    clear F
    rintro _ s ⟨g, tg, rfl⟩ F
    (refine storeL F ?_; clear F; intro s F; (with_reducible refine next_ (by assumption) ?_); refine execsK ?_; intro _ _ _; (with_reducible refine wpAny_Assign_Subscript ?_ (by with_unfolding_all (intros; rfl))); (with_reducible refine wpAny_BinOp ?_); refine nameL F (by first | rfl | assumption) ?_; (with_reducible refine constI F ?_); clear F; intro t s F; (with_reducible refine addI F ?_); clear F; intro t s F; refine nameL F (by first | rfl | assumption) ?_; (with_reducible refine constI F ?_); clear F; intro t s F)
    refine setL (pre := []) F ho (by decide) (by decide) (by simp) ?_
    clear F ho; intro s o ho F
    ((with_reducible refine next_ (by assumption) ?_); refine execsK ?_; intro _ _ _; (with_reducible refine wpAny_Assign_Subscript ?_ (by with_unfolding_all (intros; rfl))); (with_reducible refine wpAny_BinOp ?_); (with_reducible refine wpAny_BinOp ?_); (with_reducible refine wpAny_BinOp ?_); (with_reducible refine wpAny_BinOp ?_); (with_reducible refine wpAny_BinOp ?_); refine nameL F (by first | rfl | assumption) ?_; (with_reducible refine constI F ?_); clear F; intro t s F)
    refine mulI F (mul37 _) ?_
    clear F; intro t s F
    ((with_reducible refine wpAny_BinOp ?_); refine nameL F (by first | rfl | assumption) ?_; (with_reducible refine constI F ?_); clear F; intro t s F)
    refine modI hA.handled F (by decide) ?_
    clear F; intro t s F
    ((with_reducible refine addI F ?_); clear F; intro t s F; (with_reducible refine wpAny_BinOp ?_); refine nameL F (by first | rfl | assumption) ?_; (with_reducible refine constI F ?_); clear F; intro t s F)
    refine mulI F (mul3 _) ?_
    clear F; intro t s F
    ((with_reducible refine addI F ?_); clear F; intro t s F; (with_reducible refine constI F ?_); clear F; intro t s F; (with_reducible refine addI F ?_); clear F; intro t s F; (with_reducible refine constI F ?_); clear F; intro t s F)
    refine modI hA.handled F (by decide) ?_
    clear F; intro t s F
    (refine nameL F (by first | rfl | assumption) ?_; (with_reducible refine constI F ?_); clear F; intro t s F)
    refine setL (pre := []) F ho (by decide) (by decide) (by simp) ?_
    clear F ho; intro s o ho F
    ((with_reducible refine next_ (by assumption) ?_); refine execsK ?_; intro _ _ _; (with_reducible refine wpAny_Return_some ?_); (with_reducible refine wpAny_BinOp ?_); refine nameL F (by first | rfl | assumption) ?_; refine nameL F (by first | rfl | assumption) ?_)
    refine modI hA.handled F hs ?_
    clear F; intro t s F
    repeat (with_reducible first | refine rt_ (by assumption) ?_ | refine fo_ (by assumption) ?_ | refine lp_r (by assumption) ?_)
    exact ret s _ _ _ [(well, o)] [] _ F (Le.refl _) rfl ⟨o, _, _, rfl, ⟨n, ns, _, _, _, _, ho, hn, hi, by omega, hlen⟩, rfl, Int.emod_nonneg _ (by omega), Int.emod_lt_of_pos _ hs⟩
end
end

/-! F1 -/
section
theorem WellAt.mono {G G' : View} {o : Obj} (x : WellAt G o) (le : Le G G') : WellAt G' o :=
  let ⟨n, ns, a, st, t1, t2, h1, h2, h3, h4, h5⟩ := x; ⟨n, ns, a, st, t1, t2, h1, h2.mono le, h3, h4, h5⟩
/-- a plain row is a tuple -/
inductive PRow (G : View) (v : Value) (r : Row) : Prop
  | mk (a : Addr) (t1 t2 t3 : Tok) (_ : v = .ref a) (_ : TupAt G a [.int r.addr t1, .int r.file t2, .int r.line t3, .bool r.stmt, .bool r.fin])
theorem PRow.mono {G G' : View} (le : Le G G') (v : Value) (r : Row) (x : PRow G v r) : PRow G' v r := let ⟨a, t1, t2, t3, e, h⟩ := x; ⟨a, t1, t2, t3, e, h.mono le⟩
def PRows (G : View) (v : Value) (rs : List Row) : Prop := ∃ a vs, v = .ref a ∧ LstAt G a vs ∧ All2 (PRow G) vs rs
theorem PRows.mono {G G' : View} {v : Value} {rs : List Row} (x : PRows G v rs) (le : Le G G') : PRows G' v rs := let ⟨a, vs, e, h, k⟩ := x; ⟨a, vs, e, h.mono le, k.mono (PRow.mono le)⟩

section
variable {w : World} {T : Heap} {A : Around} {G : View}
set_option pp.deepTerms false
set_option pp.deepTerms.threshold 3
set_option pp.maxSteps 1500

theorem drawR {b : Bs} {env : Env} {m cm : Nm} {mu : Mu} {s : Shared} {E : Value → Shared → Prop} {Q : Value → Shared → Prop} {well : Addr} {o : Obj} {size : Int} {t : Tok} (C : Cx (KK w) b.T) (hA : Ok A 3) (hw : WellAt G o) (hs : 0 < size) (F : Fs b env m cm G ((well, o) :: mu) s)
    (k : ∀ s' G' o' r t', Le G G' → WellAt G' o' → 0 ≤ r → r < size → Fs b env m cm G' ((well, o') :: mu) s' → Q (.int r t') s') : wpAny (model PR w) A (PySem.call (.ref 139) [.ref well, .int size t]) Q E s := by
  refine Fs.calls (mu₁ := [(well, o)]) (draw_ok C hA hw hs) F ?_
  rintro s' G' mu' v le F e ⟨o', r, t', rfl, hw', rfl, h0, h1⟩
  exact k s' G' o' r t' le hw' h0 h1 F
theorem seq_ok {well : Addr} {o : Obj} {start many : Int} {t t' : Tok} (C : Cx (KK w) T) (hA : Ok A 6) (hw : WellAt G o) (hm : 1 ≤ many) (hs0 : 0 ≤ start) (hs1 : start ≤ 100000) :
    Calls PR w T A (.ref 146) [.ref well, .int start t, .int many t'] G [(well, o)] (fun G' mu' v => ∃ o' rs, mu' = [(well, o')] ∧ WellAt G' o' ∧ PRows G' v rs ∧ SeqOk start many rs) := by
  refine Calls.of_def C (binds := [("well", .ref well), ("start", .int start t), ("many", .int many t')]) hA (by with_unfolding_all rfl) (by with_unfolding_all rfl) (by with_unfolding_all rfl) ?_ ?_ ?_
  · intro n x hx
    left
    simp only [List.mem_cons, List.not_mem_nil, or_false] at hx
    rcases hx with rfl | rfl | rfl <;> rfl
  · decide
  · clear hA; intro S L s A hA Q E F ret
    (refine execsK ?_; intro _ _ _; refine Assign_Tuple_swapped ?_ (by rfl) (by rfl); (with_reducible refine tupR ?_); (with_reducible refine wpAny_items_cons ?_ (by with_unfolding_all (intros; rfl))); (with_reducible refine lstR ?_); (with_reducible refine wpAny_items_nil ?_))
    refine lst_endM F ?_
    clear F; intro l s F
    ((with_reducible refine wpAny_items_cons ?_ (by with_unfolding_all (intros; rfl))); refine nameL F (by first | rfl | assumption) ?_; (with_reducible refine wpAny_items_nil ?_))
    refine tup_end F ?_
    clear F; intro a s G1 le1 ha F
    skip
    refine unpackIT hA.handled F ⟨_, ha⟩ (by rfl) ?_
    clear F; intro s F
    (refine inOrder_cons ?_; (with_reducible refine bindName_ ?_); refine storeL F ?_; clear F; intro s F; refine inOrder_cons ?_; (with_reducible refine bindName_ ?_); refine storeL F ?_; clear F; intro s F; refine inOrder_nil ?_; (with_reducible refine next_ (by assumption) ?_); refine execsK ?_; intro _ _ _; (with_reducible refine For_ ?_ (by with_unfolding_all (intros; rfl))); intro _ _; (with_reducible refine Call_ ?_ (by with_unfolding_all (intros; rfl))); refine nameB C F (by rfl) (by first | with_reducible exact PySem.boot_len | with_reducible exact PyProof.Rows.boot_range | with_reducible exact PyProof.Rows.boot_sorted | with_reducible exact PyProof.Rows.boot_list | with_reducible exact PyProof.Rows.boot_enumerate) (by decide) ?_; (with_reducible refine PyProof.Rows.callWith_type1 ?_ (by with_unfolding_all (intros; rfl)) (by with_unfolding_all (intros; rfl))); (with_reducible refine wpAny_items_cons ?_ (by with_unfolding_all (intros; rfl))); (with_reducible refine wpAny_BinOp ?_); (with_reducible refine constI F ?_); clear F; intro t s F; (with_reducible refine Call_ ?_ (by with_unfolding_all (intros; rfl))); refine nameK C F (by rfl) ?_; refine callWith_K C.X (by rfl) ?_; (with_reducible refine wpAny_items_cons ?_ (by with_unfolding_all (intros; rfl))); refine nameL F (by first | rfl | assumption) ?_; (with_reducible refine wpAny_items_cons ?_ (by with_unfolding_all (intros; rfl))); (with_reducible refine constI F ?_); clear F; intro t s F; (with_reducible refine wpAny_items_nil ?_); refine inAnd C F ?_)
    replace F := F.perm (List.Perm.swap _ _ _)
    skip
    refine drawR C (hA.mono (by decide)) (hw.mono le1) (by decide) F ?_
    clear F hw; intro s G2 o r1 t1 le2 hw hr0 hr1 F
    ((with_reducible refine addI F ?_); clear F; intro t s F; (with_reducible refine wpAny_items_nil ?_))
    refine rng1 F ?_
    clear F; intro rg s G3 le3 hr F
    let J : Nat → Nm → Nm → View → Mu → Prop := fun i m cm G' mu => E7 fun o rs vs n z tz tm => A10 (mu = [(well, o), (l, PySem.W.listOf vs.toArray n)]) (WellAt G' o) (All2 (PRow G') vs rs) (Chain start rs z) ((∀ r ∈ rs, Code many r)) (rs.length = i) (m "well" = some (.ref well)) (m "many" = some (.int many tm)) (m "told_rows" = some (.ref l)) (m "address" = some (.int z tz))
    refine loopR hA.handled F hr (by decide) (by decide) (by lia) (by lia) J ?_ ?_ ?_
    · exact ⟨o, [], [], _, start, _, _, rfl, hw.mono le3, .nil, rfl, (fun r hr => nomatch hr), rfl, rfl, rfl, rfl, rfl⟩
    · clear F hw
      rintro i ti m₁ cm₁ G₁ mu₁ p s E₁ hi le ⟨o, rs, vs, n, z, tz, tm, rfl, hw, hvs, hch, hcode, hlen, mw, mm, mt, ma⟩ F
      intro _ _
      (refine execsK ?_; intro _ _ _; refine Assign_Tuple_swapped ?_ (by rfl) (by rfl); (with_reducible refine tupR ?_); (with_reducible refine wpAny_items_cons ?_ (by with_unfolding_all (intros; rfl))); (with_reducible refine wpAny_BinOp ?_); (with_reducible refine constI F ?_); clear F; intro t s F; (with_reducible refine Call_ ?_ (by with_unfolding_all (intros; rfl))); refine nameK C F (by rfl) ?_; refine callWith_K C.X (by rfl) ?_; (with_reducible refine wpAny_items_cons ?_ (by with_unfolding_all (intros; rfl))); refine nameL F (by first | rfl | assumption) ?_; (with_reducible refine wpAny_items_cons ?_ (by with_unfolding_all (intros; rfl))); refine nameL F (by first | rfl | assumption) ?_; (with_reducible refine wpAny_items_nil ?_); refine inAnd C F ?_)
      refine drawR C (hA.mono (by decide)) hw (by lia) F ?_
      clear F hw; intro s G2 o r2 t2 le2 hw hr20 hr21 F
      ((with_reducible refine addI F ?_); clear F; intro t s F; (with_reducible refine wpAny_items_cons ?_ (by with_unfolding_all (intros; rfl))); (with_reducible refine wpAny_BinOp ?_); (with_reducible refine constI F ?_); clear F; intro t s F; (with_reducible refine Call_ ?_ (by with_unfolding_all (intros; rfl))); refine nameK C F (by rfl) ?_; refine callWith_K C.X (by rfl) ?_; (with_reducible refine wpAny_items_cons ?_ (by with_unfolding_all (intros; rfl))); refine nameL F (by first | rfl | assumption) ?_; (with_reducible refine wpAny_items_cons ?_ (by with_unfolding_all (intros; rfl))); (with_reducible refine constI F ?_); clear F; intro t s F; (with_reducible refine wpAny_items_nil ?_); refine inAnd C F ?_)
      refine drawR C (hA.mono (by decide)) hw (by lia) F ?_
      clear F hw; intro s G3 o r3 t3 le3 hw hr30 hr31 F
      ((with_reducible refine addI F ?_); clear F; intro t s F; (with_reducible refine wpAny_items_nil ?_))
      refine tup_end F ?_
      clear F; intro a s G4 le4 ha F
      skip
      refine unpackIT hA.handled F ⟨_, ha⟩ (by rfl) ?_
      clear F; intro s F
      (refine inOrder_cons ?_; (with_reducible refine bindName_ ?_); refine storeL F ?_; clear F; intro s F; refine inOrder_cons ?_; (with_reducible refine bindName_ ?_); refine storeL F ?_; clear F; intro s F; refine inOrder_nil ?_; (with_reducible refine next_ (by assumption) ?_); refine execsK ?_; intro _ _ _; refine wpAny_If ?_; (with_reducible refine wpAny_isTrue_Compare1 ?_ (by with_unfolding_all (intros; rfl))); (with_reducible refine Call_ ?_ (by with_unfolding_all (intros; rfl))); refine nameK C F (by rfl) ?_; refine callWith_K C.X (by rfl) ?_; (with_reducible refine wpAny_items_cons ?_ (by with_unfolding_all (intros; rfl))); refine nameL F (by first | rfl | assumption) ?_; (with_reducible refine wpAny_items_cons ?_ (by with_unfolding_all (intros; rfl))); (with_reducible refine constI F ?_); clear F; intro t s F; (with_reducible refine wpAny_items_nil ?_); refine inAnd C F ?_)
      refine drawR C (hA.mono (by decide)) (hw.mono le4) (by lia) F ?_
      clear F hw; intro s G5 o r5 t5 le5 hw hr50 hr51 F
      ((with_reducible refine constI F ?_); clear F; intro t s F; (with_reducible refine eq_int ?_); (with_reducible refine wpAny_truthy_bool ?_))
      refine joinSt F (fun m' => m' "well" = some (.ref well) ∧ m' "many" = some (.int many tm) ∧ m' "told_rows" = some (.ref l) ∧ m' "address" = some (.int z tz) ∧ (∃ fl tf, m' "file" = some (.int fl tf) ∧ 1 ≤ fl ∧ fl ≤ many + 1) ∧ ∃ ln tl, m' "line" = some (.int ln tl) ∧ 1 ≤ ln ∧ ln ≤ 6)
        (fun hc => ?_) (fun hc => ?_) ?_
      · (refine execsK ?_; intro _ _ _; (with_reducible refine wpAny_Assign_Name ?_ (by with_unfolding_all (intros; rfl))); (with_reducible refine wpAny_BinOp ?_); refine nameL F (by first | rfl | assumption) ?_; (with_reducible refine constI F ?_); clear F; intro t s F; (with_reducible refine addI F ?_); clear F; intro t s F; refine storeL F ?_; clear F; intro s F; (with_reducible refine next_ (by assumption) ?_); (with_reducible refine wpAny_execs_nil ?_))
        refine ⟨rfl, _, ?_, F⟩
        exact ⟨mw, mm, mt, ma, ⟨_, _, rfl, by lia, by lia⟩, ⟨_, _, rfl, by lia, by lia⟩⟩
      · ((with_reducible refine wpAny_execs_nil ?_))
        refine ⟨rfl, _, ?_, F⟩
        exact ⟨mw, mm, mt, ma, ⟨_, _, rfl, by lia, by lia⟩, ⟨_, _, rfl, by lia, by lia⟩⟩
      clear F mw mm mt ma
      rintro m₁ s ⟨mw, mm, mt, ma, ⟨fl, tf, mf, hf0, hf1⟩, ⟨ln, tl, ml, hl0, hl1⟩⟩ F
      ((with_reducible refine next_ (by assumption) ?_); refine execsK ?_; intro _ _ _; (with_reducible refine wpAny_Expr ?_ (by with_unfolding_all (intros; rfl)) (by with_unfolding_all (intros; rfl))); (with_reducible refine MethodCall_ ?_ (by with_unfolding_all (intros; rfl))); refine nameL F (by first | rfl | assumption) ?_)
      refine methA (pre := [(well, o)]) F ?_
      ((with_reducible refine callWith_method1 ?_ (by with_unfolding_all (intros; rfl)) (by with_unfolding_all (intros; rfl))); (with_reducible refine wpAny_items_cons ?_ (by with_unfolding_all (intros; rfl))); (with_reducible refine tupR ?_); (with_reducible refine wpAny_items_cons ?_ (by with_unfolding_all (intros; rfl))); refine nameL F (by first | rfl | assumption) ?_; (with_reducible refine wpAny_items_cons ?_ (by with_unfolding_all (intros; rfl))); refine nameL F (by first | rfl | assumption) ?_; (with_reducible refine wpAny_items_cons ?_ (by with_unfolding_all (intros; rfl))); refine nameL F (by first | rfl | assumption) ?_; (with_reducible refine wpAny_items_cons ?_ (by with_unfolding_all (intros; rfl))); (with_reducible refine wpAny_Compare1 ?_ (by with_unfolding_all (intros; rfl))); (with_reducible refine Call_ ?_ (by with_unfolding_all (intros; rfl))); refine nameK C F (by rfl) ?_; refine callWith_K C.X (by rfl) ?_; (with_reducible refine wpAny_items_cons ?_ (by with_unfolding_all (intros; rfl))); refine nameL F (by first | rfl | assumption) ?_; (with_reducible refine wpAny_items_cons ?_ (by with_unfolding_all (intros; rfl))); (with_reducible refine constI F ?_); clear F; intro t s F; (with_reducible refine wpAny_items_nil ?_); refine inAnd C F ?_)
      refine drawR C (hA.mono (by decide)) hw (by lia) F ?_
      clear F hw; intro s G6 o r6 t6 le6 hw hr60 hr61 F
      ((with_reducible refine constI F ?_); clear F; intro t s F; (with_reducible refine lt_int ?_); (with_reducible refine wpAny_items_cons ?_ (by with_unfolding_all (intros; rfl))); (with_reducible refine wpAny_Constant_bool ?_); (with_reducible refine wpAny_items_nil ?_))
      refine tup_end F ?_
      clear F; intro a s G7 le7 ha F
      ((with_reducible refine wpAny_items_nil ?_))
      refine appendM (pre := [(well, o)]) F (by have := hvs.len; lia) ?_
      clear F; intro s F
      ((with_reducible refine next_ (by assumption) ?_); refine execsK ?_; intro _ _ _; (with_reducible refine wpAny_Assign_Name ?_ (by with_unfolding_all (intros; rfl))); (with_reducible refine wpAny_BinOp ?_); refine nameL F (by first | rfl | assumption) ?_; (with_reducible refine Call_ ?_ (by with_unfolding_all (intros; rfl))); refine nameK C F (by rfl) ?_; refine callWith_K C.X (by rfl) ?_; (with_reducible refine wpAny_items_cons ?_ (by with_unfolding_all (intros; rfl))); refine nameL F (by first | rfl | assumption) ?_; (with_reducible refine wpAny_items_cons ?_ (by with_unfolding_all (intros; rfl))); (with_reducible refine constI F ?_); clear F; intro t s F; (with_reducible refine wpAny_items_nil ?_); refine inAnd C F ?_)
      refine drawR C (hA.mono (by decide)) (hw.mono le7) (by lia) F ?_
      clear F hw; intro s G8 o r8 t8 le8 hw hr80 hr81 F
      ((with_reducible refine addI F ?_); clear F; intro t s F; refine storeL F ?_; clear F; intro s F; (with_reducible refine next_ (by assumption) ?_); (with_reducible refine wpAny_execs_nil ?_); (with_reducible refine lp_n (by assumption) ?_))
      have up : Le G₁ G8 := (((((le2.trans le3).trans le4).trans le5).trans le6).trans le7).trans le8
      refine ⟨_, _, _, [(well, o), (l, _)], up, F, o, rs ++ [⟨z, fl, ln, decide (r6 < 3), false⟩], _, _, z + r8, _, _, rfl, hw, (hvs.mono (PRow.mono up)).app (.one ⟨a, _, _, _, rfl, ⟨_, le8 _ _ ha⟩⟩), hch.snoc rfl (by lia) (by lia), ?_, by simp [hlen], mw, mm, mt, rfl⟩
      intro r hr
      rcases List.mem_append.mp hr with hr | hr
      · exact hcode r hr
      · rw [List.mem_singleton.mp hr]; exact ⟨rfl, hf0, hf1, hl0, hl1⟩
    · rintro m₁ cm₁ G₁ mu₁ s le ⟨o, rs, vs, n, z, tz, tm, rfl, hw, hvs, hch, hcode, hlen, mw, mm, mt, ma⟩ F
      ((with_reducible refine fo_ (by assumption) ?_); (with_reducible refine next_ (by assumption) ?_); refine execsK ?_; intro _ _ _; (with_reducible refine wpAny_Return_some ?_); (with_reducible refine wpAny_BinOp ?_); refine nameL F (by first | rfl | assumption) ?_; (with_reducible refine lstR ?_); (with_reducible refine wpAny_items_cons ?_ (by with_unfolding_all (intros; rfl))); (with_reducible refine tupR ?_); (with_reducible refine wpAny_items_cons ?_ (by with_unfolding_all (intros; rfl))); refine nameL F (by first | rfl | assumption) ?_; (with_reducible refine wpAny_items_cons ?_ (by with_unfolding_all (intros; rfl))); (with_reducible refine constI F ?_); clear F; intro t s F; (with_reducible refine wpAny_items_cons ?_ (by with_unfolding_all (intros; rfl))); (with_reducible refine constI F ?_); clear F; intro t s F; (with_reducible refine wpAny_items_cons ?_ (by with_unfolding_all (intros; rfl))); (with_reducible refine wpAny_Constant_bool ?_); (with_reducible refine wpAny_items_cons ?_ (by with_unfolding_all (intros; rfl))); (with_reducible refine wpAny_Constant_bool ?_); (with_reducible refine wpAny_items_nil ?_))
      refine tup_end F ?_
      clear F; intro a s G4 le4 ha F
      ((with_reducible refine wpAny_items_nil ?_))
      refine lst_end F ?_
      clear F; intro a2 s G5 le5 ha2 F
      refine addL F (F.f.lstM (List.mem_cons_of_mem _ (.head _)) ⟨rfl, _, rfl⟩) (F.f.lstG ⟨_, ha2, isL_lst _⟩) (by have := hvs.len; simp; lia) ?_
      clear F; intro a3 s G6 le6 ha3 F
      repeat (with_reducible first | refine rt_ (by assumption) ?_ | refine fo_ (by assumption) ?_ | refine lp_r (by assumption) ?_)
      refine ret s _ _ _ [(well, o)] _ _ F (((((le1.trans le2).trans le3).trans le).trans le4).trans (le5.trans le6)) rfl ⟨o, rs ++ [⟨z, 1, 1, true, true⟩], rfl, hw.mono ((le4.trans le5).trans le6), ⟨a3, _, rfl, ⟨_, ha3, isL_lst _⟩, (hvs.mono (PRow.mono ((le4.trans le5).trans le6))).app (.one ⟨a, _, _, _, rfl, ⟨_, le6 _ _ (le5 _ _ ha)⟩⟩)⟩, rs, z, rfl, hch, hcode, ?_⟩
      lia
end
end

/-! F2 -/
section
/-- what an object of a class bears -/
def Inst (G : View) (C x : Addr) (es : List DictEntry) : Prop := ∃ dx n, G x = some (instObj C dx) ∧ G dx = some (PySem.W.dictOf es n)
theorem Inst.mono {G G' : View} {C x : Addr} {es : List DictEntry} (h : Inst G C x es) (le : Le G G') : Inst G' C x es := let ⟨dx, n, a, b⟩ := h; ⟨dx, n, le _ _ a, le _ _ b⟩

def clsOk (K : Frag) (C : Addr) : Bool := plainGet K C "" && hasDictIn K C
def attrOk (K : Frag) (C : Addr) (name : PySem.Str) : Bool := findIn K (.ref C) name == some none
def methOk (K : Frag) (C f : Addr) (name : PySem.Str) : Bool := findIn K (.ref C) name == some (some (.ref f)) && isFn K (.ref f)
theorem clsOk127 (w : World) : clsOk (KK w) 127 = true := by rfl
theorem clsOk106 (w : World) : clsOk (KK w) 106 = true := by rfl
theorem at_address (w : World) : attrOk (KK w) 127 "address" = true := by rfl
theorem at_file (w : World) : attrOk (KK w) 127 "file" = true := by rfl
theorem at_line (w : World) : attrOk (KK w) 127 "line" = true := by rfl
theorem at_is_stmt (w : World) : attrOk (KK w) 127 "is_stmt" = true := by rfl
theorem at_is_end (w : World) : attrOk (KK w) 127 "is_end" = true := by rfl
theorem at_files (w : World) : attrOk (KK w) 106 "files" = true := by rfl
theorem at_rows (w : World) : attrOk (KK w) 106 "rows" = true := by rfl
theorem at_spans (w : World) : attrOk (KK w) 106 "spans" = true := by rfl
theorem me_number (w : World) : methOk (KK w) 106 35 "file_number" = true := by rfl
theorem me_name (w : World) : methOk (KK w) 106 42 "file_name" = true := by rfl
theorem me_place (w : World) : methOk (KK w) 106 49 "place_of" = true := by rfl
theorem me_row (w : World) : methOk (KK w) 106 56 "row_at" = true := by rfl
theorem me_like (w : World) : methOk (KK w) 106 63 "is_like" = true := by rfl
theorem me_span (w : World) : methOk (KK w) 106 70 "span_at" = true := by rfl
theorem me_begin (w : World) : methOk (KK w) 106 77 "beginnings" = true := by rfl
theorem me_lines (w : World) : methOk (KK w) 106 84 "lines_with_code" = true := by rfl
theorem me_from (w : World) : methOk (KK w) 106 89 "line_from" = true := by rfl
theorem me_places (w : World) : methOk (KK w) 106 96 "places_of" = true := by rfl
theorem me_second (w : World) : methOk (KK w) 106 103 "second_in" = true := by rfl

section
variable {prog : Program} {w : World} {K : Frag} {b : Bs} {env : Env} {m m' cm : Nm} {G G' : View} {mu mu' : Mu} {A : Around} {s : Shared} {E : Value → Shared → Prop}
theorem instAt {C x dx : Addr} {es : List DictEntry} {n : Nat} (F : Fs b env m cm G mu s) (h1 : s.heap.get? x = some (instObj C dx)) (h2 : s.heap.get? dx = some (PySem.W.dictOf es n)) : InstAt s.heap x (instObj C dx) C (some (PySem.W.dictOf es n)) := ⟨h1, rfl, rfl, h2⟩
theorem Fs.inK (F : Fs b env m cm G mu s) (C0 : Cx K b.T) : K.In s.heap := fun a o e => F.keepT a o (C0.X a o e)

theorem attrG {C x : Addr} {es : List DictEntry} {name : PySem.Str} {v : Value} {expr : Bool} {Q : Value → Shared → Prop} (C0 : Cx K b.T) (F : Fs b env m cm G mu s) (I : Inst G C x es) (hc : clsOk K C = true) (ha : attrOk K C name = true) (hl : getL name es = some (some v)) (hv : handedIn v = true)
    (h : ∀ s', Fs b env m cm G mu s' → Q v s') : wpAny (model prog w) A (getAttr (.ref x) name expr) Q E s := by
  obtain ⟨dx, n, h1, h2⟩ := I
  obtain ⟨hc1, hc2⟩ := Bool.and_eq_true_iff.mp hc
  exact get_value (F.inK C0) (instAt F (F.f.view _ _ h1) (F.f.view _ _ h2)) (plainGet_of hc1).1 (findObj_own hc2 (beq_iff_eq.mp ha) rfl hl) hv (h _ (F.tok _))

theorem methG {C x f : Addr} {es : List DictEntry} {name : PySem.Str} {pl : Sem Bool} {Q : Value × List Value → Shared → Prop} (C0 : Cx K b.T) (F : Fs b env m cm G mu s) (I : Inst G C x es) (hc : clsOk K C = true) (ha : methOk K C f name = true) (hl : getL name es = some none)
    (h : Q (.ref f, [.ref x]) s) : wpAny (model prog w) A (getMethod (.ref x) name pl) Q E s := by
  obtain ⟨dx, n, h1, h2⟩ := I
  obtain ⟨hc1, hc2⟩ := Bool.and_eq_true_iff.mp hc
  obtain ⟨ha1, ha2⟩ := Bool.and_eq_true_iff.mp ha
  exact method_fn (F.inK C0) (instAt F (F.f.view _ _ h1) (F.f.view _ _ h2)) (plainGet_of hc1).1 (plainGet_of hc1).2 (beq_iff_eq.mp ha1) (beq_iff_eq.mp ha2) (by show (lookIn name (PySem.W.dictOf es n)).map _ = _; rw [lookIn_dict, hl]; rfl) h
end
end

/-! F3 -/
section
def setOk (K : Frag) (C : Addr) (name : PySem.Str) : Bool := findIn K (.ref C) "__setattr__" == some (some (.builtin "object.__setattr__")) && plainOver K C && takerIn K C name == some none && hasDictIn K C
theorem se_address (w : World) : setOk (KK w) 127 "address" = true := by rfl
theorem se_file (w : World) : setOk (KK w) 127 "file" = true := by rfl
theorem se_line (w : World) : setOk (KK w) 127 "line" = true := by rfl
theorem se_is_stmt (w : World) : setOk (KK w) 127 "is_stmt" = true := by rfl
theorem se_is_end (w : World) : setOk (KK w) 127 "is_end" = true := by rfl
theorem se_files (w : World) : setOk (KK w) 106 "files" = true := by rfl
theorem se_rows (w : World) : setOk (KK w) 106 "rows" = true := by rfl
theorem se_spans (w : World) : setOk (KK w) 106 "spans" = true := by rfl

section
variable {prog : Program} {w : World} {K : Frag} {b : Bs} {env : Env} {m m' cm : Nm} {G G' : View} {mu mu' : Mu} {A : Around} {s : Shared} {E : Value → Shared → Prop}
theorem putL_len (name : PySem.Str) (hsh : Int) (k v : Value) : ∀ es : List DictEntry, (putL name hsh k v es).length ≤ es.length + 1
  | [] => Nat.le_refl _
  | e :: r => by
    unfold putL
    split
    · simp
    · have := putL_len name hsh k v r
      simp only [List.length_cons]; lia
theorem setM {pre post : Mu} {x C dx : Addr} {es : List DictEntry} {n : Nat} {name : PySem.Str} {v : Value} {Q : Unit → Shared → Prop} (C0 : Cx K b.T) (F : Fs b env m cm G (pre ++ (dx, PySem.W.dictOf es n) :: post) s) (hx : G x = some (instObj C dx)) (hs : setOk K C name = true)
    (hl : (getL name es).isSome = true) (hz : es.length ≤ 900)
    (h : ∀ hsh t s', Fs b env m cm G (pre ++ (dx, PySem.W.dictOf (putL name hsh (.str name t) v es) (putN name es n)) :: post) s' → Q () s') : wpAny (model prog w) A (setAttr (.ref x) name v) Q E s := by
  have M := F.f.mus (dx, PySem.W.dictOf es n) (List.mem_append_right _ (.head _))
  have hT : b.T.get? dx = none := by
    cases q : b.T.get? dx with
    | none => rfl
    | some o => have := F.f.top _ _ q; rw [M.2.2.1] at this; cases this
  have X : K.In s.heap := fun a o e => F.f.view a o (F.f.top a o (C0.X a o e))
  unfold setOk at hs
  simp only [Bool.and_eq_true, beq_iff_eq] at hs
  obtain ⟨⟨⟨h1, h2⟩, h3⟩, h4⟩ := hs
  refine PySem.W.set_dict F.f.fr C0.X (F.f.news1 M.1 M.2.1 hT) ⟨F.f.view _ _ hx, rfl, rfl, M.1⟩ rfl h1 h2 h3 h4 hl rfl (.head fun p hp => (mem_allOf.mp hp).2.2.1) (Nat.le_trans (putL_len ..) (by lia)) fun h' F' N' => ?_
  refine h _ _ _ (F.put (Fm.mutN F.f F'.ns (fun c y q1 q2 e => kept_of F.f.fr F' (fun p hp => N' p (.tail _ hp)) c y q2 q1 e) (N' _ (.head _)).1) _)
end

/-- a row as an object -/
inductive RowAt (G : View) (v : Value) (r : Row) : Prop
  | mk (x : Addr) (es : List DictEntry) (t1 t2 t3 : Tok) (_ : v = .ref x) (_ : Inst G 127 x es) (_ : getL "address" es = some (some (.int r.addr t1))) (_ : getL "file" es = some (some (.int r.file t2)))
      (_ : getL "line" es = some (some (.int r.line t3))) (_ : getL "is_stmt" es = some (some (.bool r.stmt))) (_ : getL "is_end" es = some (some (.bool r.fin)))
theorem RowAt.mono {G G' : View} (le : Le G G') (v : Value) (r : Row) (x : RowAt G v r) : RowAt G' v r := let ⟨x, es, t1, t2, t3, e, I, h1, h2, h3, h4, h5⟩ := x; ⟨x, es, t1, t2, t3, e, I.mono le, h1, h2, h3, h4, h5⟩

section
variable {w : World} {T : Heap} {A : Around} {G : View}
set_option pp.deepTerms false
set_option pp.deepTerms.threshold 3
set_option pp.maxSteps 1500
theorem row_init {x dx : Addr} {r : Row} {t1 t2 t3 : Tok} (C : Cx (KK w) T) (hA : Ok A 2) (hx : G x = some (instObj 127 dx)) :
    Calls PR w T A (.ref 124) [.ref x, .int r.addr t1, .int r.file t2, .int r.line t3, .bool r.stmt, .bool r.fin] G [(dx, PySem.W.dictOf [] 0)] (fun G' mu' v => v = .none ∧ Le G G' ∧ ∃ es n, mu' = [(dx, PySem.W.dictOf es n)] ∧
      getL "address" es = some (some (.int r.addr t1)) ∧ getL "file" es = some (some (.int r.file t2)) ∧ getL "line" es = some (some (.int r.line t3)) ∧ getL "is_stmt" es = some (some (.bool r.stmt)) ∧ getL "is_end" es = some (some (.bool r.fin))) := by
  refine Calls.of_def C (binds := [("self", .ref x), ("address", .int r.addr t1), ("file", .int r.file t2), ("line", .int r.line t3), ("is_stmt", .bool r.stmt), ("is_end", .bool r.fin)]) hA (by with_unfolding_all rfl) (by with_unfolding_all rfl) (by with_unfolding_all rfl) ?_ ?_ ?_
  · intro n x hx
    left
    simp only [List.mem_cons, List.not_mem_nil, or_false] at hx
    rcases hx with rfl | rfl | rfl | rfl | rfl | rfl <;> rfl
  · decide
  · clear hA; intro S L s A hA Q E F ret
    (refine execsK ?_; intro _ _ _; (with_reducible refine plainObj_wpAny_Assign_Attribute ?_ (by with_unfolding_all (intros; rfl))); refine nameL F (by first | rfl | assumption) ?_; refine nameL F (by first | rfl | assumption) ?_)
    refine setM (pre := []) C F hx (se_address w) (by rfl) (Nat.le_of_ble_eq_true rfl) ?_
    clear F; intro h1 k1 s F
    ((with_reducible refine next_ (by assumption) ?_); refine execsK ?_; intro _ _ _; (with_reducible refine plainObj_wpAny_Assign_Attribute ?_ (by with_unfolding_all (intros; rfl))); refine nameL F (by first | rfl | assumption) ?_; refine nameL F (by first | rfl | assumption) ?_)
    refine setM (pre := []) C F hx (se_file w) (by rfl) (Nat.le_of_ble_eq_true rfl) ?_
    clear F; intro h1 k1 s F
    ((with_reducible refine next_ (by assumption) ?_); refine execsK ?_; intro _ _ _; (with_reducible refine plainObj_wpAny_Assign_Attribute ?_ (by with_unfolding_all (intros; rfl))); refine nameL F (by first | rfl | assumption) ?_; refine nameL F (by first | rfl | assumption) ?_)
    refine setM (pre := []) C F hx (se_line w) (by rfl) (Nat.le_of_ble_eq_true rfl) ?_
    clear F; intro h1 k1 s F
    ((with_reducible refine next_ (by assumption) ?_); refine execsK ?_; intro _ _ _; (with_reducible refine plainObj_wpAny_Assign_Attribute ?_ (by with_unfolding_all (intros; rfl))); refine nameL F (by first | rfl | assumption) ?_; refine nameL F (by first | rfl | assumption) ?_)
    refine setM (pre := []) C F hx (se_is_stmt w) (by rfl) (Nat.le_of_ble_eq_true rfl) ?_
    clear F; intro h1 k1 s F
    ((with_reducible refine next_ (by assumption) ?_); refine execsK ?_; intro _ _ _; (with_reducible refine plainObj_wpAny_Assign_Attribute ?_ (by with_unfolding_all (intros; rfl))); refine nameL F (by first | rfl | assumption) ?_; refine nameL F (by first | rfl | assumption) ?_)
    refine setM (pre := []) C F hx (se_is_end w) (by rfl) (Nat.le_of_ble_eq_true rfl) ?_
    clear F; intro h1 k1 s F
    ((with_reducible refine next_ (by assumption) ?_); (with_reducible refine wpAny_execs_nil ?_))
    repeat (with_reducible first | refine rt_ (by assumption) ?_ | refine fo_ (by assumption) ?_ | refine lp_r (by assumption) ?_)
    exact ret s _ _ _ [(dx, _)] [] _ F (Le.refl _) rfl ⟨rfl, Le.refl _, _, _, rfl, rfl, rfl, rfl, rfl, rfl⟩

theorem make_cls {prog : Program} {K : Frag} {C fI : Addr} {args : List Value} {n : Nat} {P : View → Value → Prop} (C0 : Cx K T) (hm : makesIn K C = true) (hi : findIn K (.ref C) "__init__" = some (some (.ref fI))) (hf : typeIn K (.ref fI) = some (.type "function")) (hA : Ok A (n + 1))
    (init : ∀ x dx G1 A', Le G G1 → G1 x = some (instObj C dx) → Ok A' n → Calls prog w T A' (.ref fI) (.ref x :: args) G1 [(dx, PySem.W.dictOf [] 0)] (fun G' mu' v => v = .none ∧ ∃ es n, mu' = [(dx, PySem.W.dictOf es n)] ∧ ∀ G2, Le G' G2 → Inst G2 C x es → P G2 (.ref x))) :
    Calls prog w T A (.ref C) args G [] (fun G' _ v => P G' v) := by
  intro s R hT top view mus mnd k
  have X : K.In s.heap := fun a o e => view _ _ (top _ _ (C0.X a o e))
  obtain ⟨h, g, d, tk, os⟩ := s
  refine make_core (makes_of X hm) (looks_findIn X hi) (fun self => bind_fn X self hf) (.inl rfl) ?_
  have hn : h.get? h.objs.size = none := Heap.get?_none_of_le (Nat.le_refl _)
  have hn1 : h.get? (h.objs.size + 1) = none := Heap.get?_none_of_le (Nat.le_succ _)
  have hk : ∀ a o, h.get? a = some o → ((h.push emptyDict).push (instObj C h.objs.size)).get? a = some o := fun a o e => Heap.get?_push_of_some _ (Heap.get?_push_of_some _ e)
  have hx : ((h.push emptyDict).push (instObj C h.objs.size)).get? (h.objs.size + 1) = some (instObj C h.objs.size) := by
    have := Heap.get?_push_size (h.push emptyDict) (o := instObj C h.objs.size) rfl
    rwa [Heap.size_push] at this
  have hd : ((h.push emptyDict).push (instObj C h.objs.size)).get? h.objs.size = some (PySem.W.dictOf [] 0) := Heap.get?_push_of_some _ (Heap.get?_push_size _ rfl)
  have noG : ∀ a, h.get? a = none → G a = none := fun a e => by
    cases q : G a with
    | none => rfl
    | some o => have := view a o q; rw [show (Shared.mk h g d tk os).heap = h from rfl, e] at this; cases this
  have le1 : Le G (ext G (h.objs.size + 1) (instObj C h.objs.size)) := fun a o e => by
    unfold ext
    by_cases q : a = h.objs.size + 1
    · subst q; rw [noG _ hn1] at e; cases e
    · rw [if_neg q]; exact e
  have hA' : Ok (A.under (.builtin "type.__call__" ⟨.ref C :: args, []⟩)) n :=
    ⟨hA.handled, by have := hA.depth; rw [depth_under_make]; lia, by have := hA.units; rw [units_under_make]; lia⟩
  refine init (h.objs.size + 1) h.objs.size _ _ le1 (ext_self ..) hA' _ _ ?_ ?_ ?_ ?_ ?_ ?_
  · show T.objs.size ≤ ((h.push emptyDict).push _).objs.size
    rw [Heap.size_push, Heap.size_push]
    have : T.objs.size ≤ h.objs.size := hT
    lia
  · exact fun a o e => le1 _ _ (top a o e)
  · intro a o e
    unfold ext at e
    by_cases q : a = h.objs.size + 1
    · subst q; rw [if_pos rfl] at e; cases e; exact hx
    · rw [if_neg q] at e; exact hk _ _ (view _ _ e)
  · intro p hp
    rw [List.mem_singleton.mp hp]
    refine ⟨hd, ?_⟩
    unfold ext
    rw [if_neg (by simp)]
    exact noG _ hn
  · simp
  · rintro s' G' mu' v rs gr ⟨rfl, es, n, rfl, hP⟩
    refine ⟨rfl, ?_⟩
    have hd' := gr.mus _ (.head _)
    have G'd : G' h.objs.size = none := by
      cases q : G' h.objs.size with
      | none => rfl
      | some o =>
        rcases gr.fresh _ _ q with z | z
        · unfold ext at z; rw [if_neg (by simp), noG _ hn] at z; cases z
        · have z : ((h.push emptyDict).push (instObj C h.objs.size)).get? h.objs.size = none := z
          rw [hd] at z; cases z
    have le3 : Le G' (ext G' h.objs.size (PySem.W.dictOf es n)) := fun a o e => by
      unfold ext
      by_cases q : a = h.objs.size
      · subst q; rw [G'd] at e; cases e
      · rw [if_neg q]; exact e
    refine k s' (ext G' h.objs.size (PySem.W.dictOf es n)) [] _ (Rest.trans (r := ⟨h, g, d, tk, os⟩) ⟨_, _, rfl⟩ rs) ⟨fun a o e _ => gr.keep a o (hk a o e) (by
      intro q
      have q : a = h.objs.size := by simpa using q
      have e : h.get? a = some o := e
      rw [q, hn] at e; cases e), fun a o e => ?_, (le1.trans gr.le).trans le3, fun a o e => ?_, rfl, fun p hp => nomatch hp⟩ (hP _ le3 ⟨_, n, le3 _ _ (gr.le _ _ (ext_self ..)), ext_self ..⟩)
    · unfold ext at e
      by_cases q : a = h.objs.size
      · subst q; rw [if_pos rfl] at e; cases e; exact hd'
      · rw [if_neg q] at e; exact gr.view _ _ e
    · unfold ext at e
      by_cases q : a = h.objs.size
      · subst q; exact .inr hn
      · rw [if_neg q] at e
        rcases gr.fresh _ _ e with z | z
        · unfold ext at z
          by_cases q2 : a = h.objs.size + 1
          · subst q2; exact .inr hn1
          · rw [if_neg q2] at z; exact .inl z
        · right
          cases q3 : h.get? a with
          | none => rfl
          | some o' => have := hk _ _ q3; rw [show ((Shared.mk ((h.push emptyDict).push (instObj C h.objs.size)) g d tk os)).heap.get? a = none from z] at this; cases this

theorem row_new {r : Row} {t1 t2 t3 : Tok} (C : Cx (KK w) T) (hA : Ok A 3) :
    Calls PR w T A (.ref 127) [.int r.addr t1, .int r.file t2, .int r.line t3, .bool r.stmt, .bool r.fin] G [] (fun G' _ v => RowAt G' v r) :=
  make_cls C (by rfl) (fI := 124) (by rfl) (by rfl) hA fun x dx G1 A' le1 hx hA' => (row_init C hA' hx).mono fun G' mu' v le h => by
    obtain ⟨rfl, le2, es, n, rfl, e1, e2, e3, e4, e5⟩ := h
    exact ⟨rfl, es, n, rfl, fun G2 le3 I => ⟨x, es, t1, t2, t3, rfl, I, e1, e2, e3, e4, e5⟩⟩
end

section
variable {prog : Program} {w : World} {K : Frag} {b : Bs} {env : Env} {m m' cm : Nm} {G G' : View} {mu mu' : Mu} {A : Around} {s : Shared} {E : Value → Shared → Prop}
theorem itemLn {value slice : PySem.Expr} {l : Addr} {vs : List Value} {p : Nat} {u : Tok} {v : Value} {Q : Value → Shared → Prop} (F : Fs b env m cm G mu s) (hl : LstAt G l vs) (hx : vs[p]? = some v) (hz : vs.length ≤ 1000) (h : Q v s)
    (hs : subscripted slice false (.ref l) (.int p u) = operate [.ref l, .int p u] (getItem (.ref l) (.int p u)) := by with_unfolding_all rfl) :
    wpAny (model prog w) A (subscriptTail value slice (.ref l) (.int p u)) Q E s := by
  have hlt : p < vs.length := by
    rcases Nat.lt_or_ge p vs.length with q | q
    · exact q
    · rw [List.getElem?_eq_none q] at hx; cases hx
  exact itemL (F.f.lstG hl) (by lia) (by lia) (by simpa using hx) h hs
end
end

/-! F4 -/
section
section
variable {prog : Program} {w : World} {K : Frag} {b : Bs} {env : Env} {m m' cm : Nm} {G G' : View} {mu mu' : Mu} {A : Around} {s : Shared} {E : Value → Shared → Prop}
theorem shaped_tup (ns : List Int) : shaped (.tuple (ns.map PyData.int)) = true := by
  have h1 := PySem.W.depthAll_ints ns
  have h2 : PyData.depth (.tuple (ns.map PyData.int)) ≤ 64 := by simp only [PyData.depth]; lia
  show (PyData.canLay0 (.tuple (ns.map PyData.int)) && decide (PyData.depth (.tuple (ns.map PyData.int)) ≤ 64)) = true
  rw [Bool.and_eq_true]
  exact ⟨by simp only [PyData.canLay0]; exact canLayAll0_ints ns, decide_eq_true h2⟩
theorem reads_tup {h : Heap} {a : Addr} {vs : List Value} {ns : List Int} (hl : h.IsTuple a vs.toArray) (hi : IntsAre vs ns) : Reads h (.ref a) (.tuple (ns.map PyData.int)) [] := by
  obtain ⟨o, ho, hc, n, hd⟩ := hl
  exact Reads.tuple ho hc hd (by simpa using readsAll_of_ints hi)
theorem eqTT {x y : Addr} {vs us : List Value} {ns ms : List Int} {n : Nat} {Q : Value → Shared → Prop} (hA : Ok A n) (F : Fs b env m cm G mu s) (hx : TupAt G x vs) (hi : IntsAre vs ns) (hy : TupAt G y us) (hj : IntsAre us ms) (h : Q (.bool (decide (ns = ms))) s) :
    wpAny (model prog w) A (compareOp .Eq (.ref x) (.ref y)) Q E s :=
  eq_dataH_same (reads_tup (F.f.tup hx) hi) (reads_tup (F.f.tup hy) hj) (shaped_tup ns) (shaped_tup ms) (by have := hA.units; lia) (by simp only [noMix]; exact noMix_ints ns ms) (by simp only [PySem.Spec.same]; rw [same_ints]; exact h)
theorem eqNT {y : Addr} {us : List Value} {ms : List Int} {n : Nat} {Q : Value → Shared → Prop} (hA : Ok A n) (F : Fs b env m cm G mu s) (hy : TupAt G y us) (hj : IntsAre us ms) (h : Q (.bool false) s) : wpAny (model prog w) A (compareOp .Eq .none (.ref y)) Q E s :=
  eq_dataH_same (.none) (reads_tup (F.f.tup hy) hj) (by decide +kernel) (shaped_tup ms) (by have := hA.units; lia) (by simp only [noMix]) (by simp only [PySem.Spec.same]; exact h)
theorem eqTN {y : Addr} {us : List Value} {ms : List Int} {n : Nat} {Q : Value → Shared → Prop} (hA : Ok A n) (F : Fs b env m cm G mu s) (hy : TupAt G y us) (hj : IntsAre us ms) (h : Q (.bool false) s) : wpAny (model prog w) A (compareOp .Eq (.ref y) .none) Q E s :=
  eq_dataH_same (reads_tup (F.f.tup hy) hj) (.none) (shaped_tup ms) (by decide +kernel) (by have := hA.units; lia) (by simp only [noMix]) (by simp only [PySem.Spec.same]; exact h)
end

inductive SpAt (G : View) (v : Value) (p : Sp) : Prop
  | mk (a : Addr) (t1 t2 t3 : Tok) (_ : v = .ref a) (_ : TupAt G a [.int p.lo t1, .int p.hi t2, .int p.at_ t3])
theorem SpAt.mono {G G' : View} (le : Le G G') (v : Value) (p : Sp) (x : SpAt G v p) : SpAt G' v p := let ⟨a, t1, t2, t3, e, h⟩ := x; ⟨a, t1, t2, t3, e, h.mono le⟩
def StrIs (v : Value) (x : PySem.Str) : Prop := ∃ t, v = .str x t
/-- a list, told to the last field -/
def LstX (G : View) (a : Addr) (vs : List Value) : Prop := ∃ n, G a = some (PySem.W.listOf vs.toArray n)
theorem LstX.at {G : View} {a : Addr} {vs : List Value} (x : LstX G a vs) : LstAt G a vs := let ⟨n, e⟩ := x; ⟨_, e, rfl, n, rfl⟩
theorem LstX.mono {G G' : View} {a : Addr} {vs : List Value} (x : LstX G a vs) (le : Le G G') : LstX G' a vs := let ⟨n, e⟩ := x; ⟨n, le _ _ e⟩
/-- the table -/
structure TabAt (G : View) (x : Addr) (names : List PySem.Str) (rvs : List Value) (rows : List Row) (sps : List Sp) : Prop where
  rv : All2 (RowAt G) rvs rows
  bound : rows.length ≤ 100 ∧ names.length ≤ 10 ∧ sps.length ≤ 100 ∧ ∀ p ∈ sps, p.at_ < rows.length
  inst : ∃ es fl rl sl nvs svs, Inst G 106 x es ∧ getL "files" es = some (some (.ref fl)) ∧ getL "rows" es = some (some (.ref rl)) ∧ getL "spans" es = some (some (.ref sl)) ∧ (∃ h1 k1 v1 h2 k2 v2 h3 k3 v3, es = [⟨h1, .str "files" k1, v1⟩, ⟨h2, .str "rows" k2, v2⟩, ⟨h3, .str "spans" k3, v3⟩]) ∧ LstX G fl nvs ∧ All2 StrIs nvs names ∧ LstAt G rl rvs ∧ LstAt G sl svs ∧ All2 (SpAt G) svs sps
theorem TabAt.mono {G G' : View} {x : Addr} {names : List PySem.Str} {rvs : List Value} {rows : List Row} {sps : List Sp} (h : TabAt G x names rvs rows sps) (le : Le G G') : TabAt G' x names rvs rows sps :=
  ⟨h.rv.mono (RowAt.mono le), h.bound, let ⟨es, fl, rl, sl, nvs, svs, a, a1, a2, a3, a4, b, c, d, e, f⟩ := h.inst; ⟨es, fl, rl, sl, nvs, svs, a.mono le, a1, a2, a3, a4, b.mono le, c, d.mono le, e.mono le, f.mono (SpAt.mono le)⟩⟩

theorem noName {es : List DictEntry} (h : ∃ h1 k1 v1 h2 k2 v2 h3 k3 v3, es = [⟨h1, .str "files" k1, v1⟩, ⟨h2, .str "rows" k2, v2⟩, ⟨h3, .str "spans" k3, v3⟩]) (name : PySem.Str) (hn : (name == "files" || name == "rows" || name == "spans") = false) : getL name es = some none := by
  obtain ⟨h1, k1, v1, h2, k2, v2, h3, k3, v3, rfl⟩ := h
  simp only [Bool.or_eq_false_iff] at hn
  obtain ⟨⟨n1, n2⟩, n3⟩ := hn
  have q : ∀ a b : PySem.Str, (a == b) = false → (b == a) = false := fun a b h => by
    cases r : b == a with
    | false => rfl
    | true => rw [eq_of_beq r] at h; simp at h
  simp only [getL, List.find?_cons, Value.isStr, q _ _ n1, q _ _ n2, q _ _ n3, List.find?_nil, List.any_cons, List.any_nil]
  rfl
/-- two spans touch and are of one line -/
def like (rows : List Row) (sps : List Sp) (p q : Nat) : Bool := match sps[p]?, sps[q]? with
  | some a, some b => (match rows[a.at_]?, rows[b.at_]? with
    | some r, some t => decide (a.hi = b.lo) && decide (r.file = t.file ∧ r.line = t.line)
    | _, _ => false)
  | _, _ => false

section
variable {w : World} {T : Heap} {A : Around} {G : View} {x : Addr} {names : List PySem.Str} {rvs : List Value} {rows : List Row} {sps : List Sp}
set_option pp.deepTerms false
set_option pp.deepTerms.threshold 3
set_option pp.maxSteps 1500
theorem like_ok {p q : Nat} {t1 t2 : Tok} (C : Cx (KK w) T) (hA : Ok A 3) (H : TabAt G x names rvs rows sps) (hp : p < sps.length) (hq : q < sps.length) :
    Calls PR w T A (.ref 63) [.ref x, .int p t1, .int q t2] G [] (fun G' _ v => v = .bool (like rows sps p q)) := by
  refine Calls.of_def C (binds := [("self", .ref x), ("place", .int p t1), ("other", .int q t2)]) hA (by with_unfolding_all rfl) (by with_unfolding_all rfl) (by with_unfolding_all rfl) ?_ ?_ ?_
  · intro n x hx
    left
    simp only [List.mem_cons, List.not_mem_nil, or_false] at hx
    rcases hx with rfl | rfl | rfl <;> rfl
  · decide
  · clear hA; intro S L s A hA Q E F ret
    obtain ⟨hrv, ⟨hb1, hb2, hb3, hb4⟩, es, fl, rl, sl, nvs, svs, I, ef, er, es', el, hf, hfn, hr, hsl, hsp⟩ := H
    obtain ⟨va, ha, a, ta1, ta2, ta3, rfl, hta⟩ := hsp.get' (List.getElem?_eq_getElem hp)
    obtain ⟨vb, hb, bb, tb1, tb2, tb3, rfl, htb⟩ := hsp.get' (List.getElem?_eq_getElem hq)
    have hra := hb4 _ (List.getElem_mem hp)
    have hrb := hb4 _ (List.getElem_mem hq)
    obtain ⟨ua, hua, xa, esa, u1, u2, u3, rfl, Ia, ea1, ea2, ea3, ea4, ea5⟩ := hrv.get' (List.getElem?_eq_getElem hra)
    obtain ⟨ub, hub, xb, esb, y1, y2, y3, rfl, Ib, eb1, eb2, eb3, eb4, eb5⟩ := hrv.get' (List.getElem?_eq_getElem hrb)
    have l1 := hsp.len
    have l2 := hrv.len
    (refine execsK ?_; intro _ _ _; refine Assign_Tuple_swapped ?_ (by rfl) (by rfl); (with_reducible refine tupR ?_); (with_reducible refine wpAny_items_cons ?_ (by with_unfolding_all (intros; rfl))); (with_reducible refine Subscript_ ?_); (with_reducible refine Attribute_any_ ?_ (by with_unfolding_all (intros; rfl))); refine nameL F (by first | rfl | assumption) ?_; refine attrG C F (by assumption) (clsOk106 _) (by first | with_reducible exact at_rows _ | with_reducible exact at_spans _ | with_reducible exact at_files _) (by first | assumption | rfl) (by rfl) ?_; clear F; intro s F; (with_reducible refine Subscript_ ?_); (with_reducible refine Subscript_ ?_); (with_reducible refine Attribute_any_ ?_ (by with_unfolding_all (intros; rfl))); refine nameL F (by first | rfl | assumption) ?_; refine attrG C F (by assumption) (clsOk106 _) (by first | with_reducible exact at_rows _ | with_reducible exact at_spans _ | with_reducible exact at_files _) (by first | assumption | rfl) (by rfl) ?_; clear F; intro s F; refine nameL F (by first | rfl | assumption) ?_; refine itemLn F (by assumption) (by assumption) (by omega) ?_; (with_reducible refine constI F ?_); clear F; intro t s F; refine itemT (F.f.tup (by assumption)) (by decide) (by decide) (by rfl) ?_; refine itemLn F (by assumption) (by assumption) (by omega) ?_; (with_reducible refine wpAny_items_cons ?_ (by with_unfolding_all (intros; rfl))); (with_reducible refine Subscript_ ?_); (with_reducible refine Attribute_any_ ?_ (by with_unfolding_all (intros; rfl))); refine nameL F (by first | rfl | assumption) ?_; refine attrG C F (by assumption) (clsOk106 _) (by first | with_reducible exact at_rows _ | with_reducible exact at_spans _ | with_reducible exact at_files _) (by first | assumption | rfl) (by rfl) ?_; clear F; intro s F; (with_reducible refine Subscript_ ?_); (with_reducible refine Subscript_ ?_); (with_reducible refine Attribute_any_ ?_ (by with_unfolding_all (intros; rfl))); refine nameL F (by first | rfl | assumption) ?_; refine attrG C F (by assumption) (clsOk106 _) (by first | with_reducible exact at_rows _ | with_reducible exact at_spans _ | with_reducible exact at_files _) (by first | assumption | rfl) (by rfl) ?_; clear F; intro s F; refine nameL F (by first | rfl | assumption) ?_; refine itemLn F (by assumption) (by assumption) (by omega) ?_; (with_reducible refine constI F ?_); clear F; intro t s F; refine itemT (F.f.tup (by assumption)) (by decide) (by decide) (by rfl) ?_; refine itemLn F (by assumption) (by assumption) (by omega) ?_; (with_reducible refine wpAny_items_nil ?_))
    refine tup_end F ?_
    clear F; intro p1 s G1 le1 hp1 F
    replace I := I.mono le1; replace Ia := Ia.mono le1; replace Ib := Ib.mono le1; replace hsl := hsl.mono le1; replace hr := hr.mono le1; replace hta := hta.mono le1; replace htb := htb.mono le1
    skip
    refine unpackIT hA.handled F ⟨_, hp1⟩ (by rfl) ?_
    clear F; intro s F
    (refine inOrder_cons ?_; (with_reducible refine bindName_ ?_); refine storeL F ?_; clear F; intro s F; refine inOrder_cons ?_; (with_reducible refine bindName_ ?_); refine storeL F ?_; clear F; intro s F; refine inOrder_nil ?_; (with_reducible refine next_ (by assumption) ?_); refine execsK ?_; intro _ _ _; (with_reducible refine wpAny_Return_some ?_); (with_reducible refine wpAny_And2 ?_); (with_reducible refine wpAny_Compare1 ?_ (by with_unfolding_all (intros; rfl))); (with_reducible refine Subscript_ ?_); (with_reducible refine Subscript_ ?_); (with_reducible refine Attribute_any_ ?_ (by with_unfolding_all (intros; rfl))); refine nameL F (by first | rfl | assumption) ?_; refine attrG C F (by assumption) (clsOk106 _) (by first | with_reducible exact at_rows _ | with_reducible exact at_spans _ | with_reducible exact at_files _) (by first | assumption | rfl) (by rfl) ?_; clear F; intro s F; refine nameL F (by first | rfl | assumption) ?_; refine itemLn F (by assumption) (by assumption) (by omega) ?_; (with_reducible refine constI F ?_); clear F; intro t s F; refine itemT (F.f.tup (by assumption)) (by decide) (by decide) (by rfl) ?_; (with_reducible refine Subscript_ ?_); (with_reducible refine Subscript_ ?_); (with_reducible refine Attribute_any_ ?_ (by with_unfolding_all (intros; rfl))); refine nameL F (by first | rfl | assumption) ?_; refine attrG C F (by assumption) (clsOk106 _) (by first | with_reducible exact at_rows _ | with_reducible exact at_spans _ | with_reducible exact at_files _) (by first | assumption | rfl) (by rfl) ?_; clear F; intro s F; refine nameL F (by first | rfl | assumption) ?_; refine itemLn F (by assumption) (by assumption) (by omega) ?_; (with_reducible refine constI F ?_); clear F; intro t s F; refine itemT (F.f.tup (by assumption)) (by decide) (by decide) (by rfl) ?_; (with_reducible refine eq_int ?_); (with_reducible refine wpAny_truthy_bool ?_))
    have hl0 : like rows sps p q = (decide (sps[p].hi = sps[q].lo) && decide (rows[sps[p].at_].file = rows[sps[q].at_].file ∧ rows[sps[p].at_].line = rows[sps[q].at_].line)) := by
      unfold like; simp only [List.getElem?_eq_getElem hp, List.getElem?_eq_getElem hq, List.getElem?_eq_getElem hra, List.getElem?_eq_getElem hrb]
    by_cases hc : sps[p].hi = sps[q].lo
    · rw [if_pos (by simpa using hc)]
      ((with_reducible refine wpAny_Compare1 ?_ (by with_unfolding_all (intros; rfl))); (with_reducible refine tupR ?_); (with_reducible refine wpAny_items_cons ?_ (by with_unfolding_all (intros; rfl))); (with_reducible refine Attribute_any_ ?_ (by with_unfolding_all (intros; rfl))); refine nameL F (by first | rfl | assumption) ?_; refine attrG C F (by assumption) (clsOk127 _) (by first | with_reducible exact at_address _ | with_reducible exact at_file _ | with_reducible exact at_line _ | with_reducible exact at_is_stmt _ | with_reducible exact at_is_end _) (by first | assumption | rfl) (by rfl) ?_; clear F; intro s F; (with_reducible refine wpAny_items_cons ?_ (by with_unfolding_all (intros; rfl))); (with_reducible refine Attribute_any_ ?_ (by with_unfolding_all (intros; rfl))); refine nameL F (by first | rfl | assumption) ?_; refine attrG C F (by assumption) (clsOk127 _) (by first | with_reducible exact at_address _ | with_reducible exact at_file _ | with_reducible exact at_line _ | with_reducible exact at_is_stmt _ | with_reducible exact at_is_end _) (by first | assumption | rfl) (by rfl) ?_; clear F; intro s F; (with_reducible refine wpAny_items_nil ?_))
      refine tup_end F ?_
      clear F; intro p2 s G2 le2 hp2 F
      replace Ib := Ib.mono le2
      ((with_reducible refine tupR ?_); (with_reducible refine wpAny_items_cons ?_ (by with_unfolding_all (intros; rfl))); (with_reducible refine Attribute_any_ ?_ (by with_unfolding_all (intros; rfl))); refine nameL F (by first | rfl | assumption) ?_; refine attrG C F (by assumption) (clsOk127 _) (by first | with_reducible exact at_address _ | with_reducible exact at_file _ | with_reducible exact at_line _ | with_reducible exact at_is_stmt _ | with_reducible exact at_is_end _) (by first | assumption | rfl) (by rfl) ?_; clear F; intro s F; (with_reducible refine wpAny_items_cons ?_ (by with_unfolding_all (intros; rfl))); (with_reducible refine Attribute_any_ ?_ (by with_unfolding_all (intros; rfl))); refine nameL F (by first | rfl | assumption) ?_; refine attrG C F (by assumption) (clsOk127 _) (by first | with_reducible exact at_address _ | with_reducible exact at_file _ | with_reducible exact at_line _ | with_reducible exact at_is_stmt _ | with_reducible exact at_is_end _) (by first | assumption | rfl) (by rfl) ?_; clear F; intro s F; (with_reducible refine wpAny_items_nil ?_))
      refine tup_end F ?_
      clear F; intro p3 s G3 le3 hp3 F
      refine eqTT hA F ⟨_, le3 _ _ hp2⟩ (.cons _ _ (.cons _ _ .nil)) ⟨_, hp3⟩ (.cons _ _ (.cons _ _ .nil)) ?_
      repeat (with_reducible first | refine rt_ (by assumption) ?_ | refine fo_ (by assumption) ?_ | refine lp_r (by assumption) ?_)
      refine ret s _ _ G3 [] [] _ F ((le1.trans le2).trans le3) rfl ?_
      rw [hl0]; simp [hc]
    · rw [if_neg (by simpa using hc)]
      repeat (with_reducible first | refine rt_ (by assumption) ?_ | refine fo_ (by assumption) ?_ | refine lp_r (by assumption) ?_)
      refine ret s _ _ G1 [] [] _ F le1 rfl ?_
      rw [hl0]; simp [hc]
end
end

/-! S4 -/
section
section
variable {prog : Program} {w : World} {b : Bs} {env : Env} {m cm : Nm} {G : View} {mu pre post : Mu} {A : Around} {s : Shared} {E : Value → Shared → Prop} {Q : Value → Shared → Prop}
/-- a tuple's copy as a list -/
theorem listT {t : Addr} {vs : List Value} (F : Fs b env m cm G mu s) (ht : TupAt G t vs) (hz : vs.length ≤ 1000) (h : ∀ a s' G', Le G G' → LstX G' a vs → Fs b env m cm G' mu s' → Q (.ref a) s') : wpAny (model prog w) A (PySem.call (.type "list") [.ref t]) Q E s := by
  obtain ⟨n, hG⟩ := ht
  refine call_list_seq (hsz := by rw [sizeLine_eq]; simp; lia) t (.inr rfl) (F.f.view _ _ hG) rfl rfl fun h' c' hk hD => ?_
  have le : Le G (ext G s.heap.objs.size { cls := .type "list", dict := none, data := .seq vs.toArray c', slots := #[] }) := fun a o e => by
    unfold ext
    by_cases q : a = s.heap.objs.size
    · subst q; have := F.f.view _ _ e; rw [fresh_none s] at this; cases this
    · rw [if_neg q]; exact e
  refine h _ _ _ le ⟨c', ext_self ..⟩ (F.heap (F.f.grow hk le (fun a o e => ?_) fun a o e => ?_))
  · unfold ext at e
    by_cases q : a = s.heap.objs.size
    · subst q; rw [if_pos rfl] at e; cases e; exact hD
    · rw [if_neg q] at e; exact hk _ _ (F.f.view _ _ e)
  · unfold ext at e
    by_cases q : a = s.heap.objs.size
    · subst q; exact .inr (fresh_none s)
    · rw [if_neg q] at e; exact .inl e
theorem popG {l : Addr} {its : Array Value} {n : Nat} {i : Int} {u : Tok} {k : Nat} {y : Value} (M : s.heap.get? l = some { cls := .type "list", dict := none, data := .seq its n, slots := #[] }) (hf : Builtin.List.listFitsIndex i = true) (hk : seqIndex? i its.size = some k)
    (hy : its[k]? = some y) (hz : its.size ≤ sizeLine) (h : Q y { s with heap := s.heap.update l (Obj.mapSeq fun xs => xs.eraseIdxIfInBounds k) }) : wpAny (model prog w) A (PySem.call (.builtin "list.pop") [.ref l, .int i u]) Q E s :=
  call_meets PySem.F.slot_list_pop ⟨_, M, rfl⟩ PySem.F.entry_list_pop (PySem.F.args_list_pop_2 _ _) (PySem.MeetsSeq.list_pop_at l _ n i u _ y hf hk hy hz) ⟨M, h⟩
/-- an item is taken from a changeable list -/
theorem popM {l : Addr} {p q : List Value} {y : Value} {n : Nat} {i : Nat} {u : Tok} (F : Fs b env m cm G (pre ++ (l, PySem.W.listOf (p ++ y :: q).toArray n) :: post) s) (hi : i = p.length) (hz : (p ++ y :: q).length ≤ 1000)
    (h : ∀ s', Fs b env m cm G (pre ++ (l, PySem.W.listOf (p ++ q).toArray (n + 1)) :: post) s' → Q y s') : wpAny (model prog w) A (PySem.call (.builtin "list.pop") [.ref l, .int i u]) Q E s := by
  subst hi
  have M := (F.f.mus (l, PySem.W.listOf (p ++ y :: q).toArray n) (List.mem_append_right _ (.head _))).1
  have hz' : (p ++ y :: q).toArray.size ≤ sizeLine := by rw [sizeLine_eq]; simp at hz ⊢; lia
  have hlen : p.length < (p ++ y :: q).toArray.size := by simp
  have hlt : (p ++ y :: q).toArray.size ≤ 1000 := by simpa using hz
  have M : s.heap.get? l = some { cls := .type "list", dict := none, data := .seq (p ++ y :: q).toArray n, slots := #[] } := M
  have hf : Builtin.List.listFitsIndex (p.length : Int) = true := by
    unfold Builtin.List.listFitsIndex
    simp; lia
  have hk : seqIndex? (p.length : Int) (p ++ y :: q).toArray.size = some p.length := by
    unfold seqIndex?
    simp only [show ¬ ((p.length : Int) < 0) by lia, if_false]
    simp
    lia
  have hy : (p ++ y :: q).toArray[p.length]? = some y := by simp
  have ek := kl_erase p q y
  have hne : ((p ++ q).toArray.size == (p ++ y :: q).toArray.size) = false := by
    rw [beq_eq_false_iff_ne]; simp
  refine popG M hf hk hy hz' (h _ (F.heap (F.f.mut (Heap.SameBut.update ..) ?_)))
  have q0 := PySem.IsL.update M (fun xs => xs.eraseIdxIfInBounds p.length)
  rw [ek, hne] at q0
  exact q0
/-- two ways of statements meet, what is known may change -/
theorem joinSt2 {c : Bool} {b1 b2 : List Stmt} {Q : Flow → Shared → Prop} (F0 : Fs b env m cm G mu s) (P : Nm → Nm → View → Mu → Prop) (h1 : c = true → wpAny (model prog w) A (execs b1 env) (fun f s' => f = .next ∧ ∃ m' cm' G' mu', P m' cm' G' mu' ∧ Fs b env m' cm' G' mu' s') E s)
    (h2 : c = false → wpAny (model prog w) A (execs b2 env) (fun f s' => f = .next ∧ ∃ m' cm' G' mu', P m' cm' G' mu' ∧ Fs b env m' cm' G' mu' s') E s) (k : ∀ m' cm' G' mu' s', P m' cm' G' mu' → Fs b env m' cm' G' mu' s' → Q .next s') :
    if c = true then wpAny (model prog w) A (execs b1 env) Q E s else wpAny (model prog w) A (execs b2 env) Q E s := by
  cases c with
  | true => exact wpAny_mono (h1 rfl) (fun f s' q => by obtain ⟨rfl, m', cm', G', mu', p, F'⟩ := q; exact k m' cm' G' mu' s' p F') fun _ _ e => e
  | false => exact wpAny_mono (h2 rfl) (fun f s' q => by obtain ⟨rfl, m', cm', G', mu', p, F'⟩ := q; exact k m' cm' G' mu' s' p F') fun _ _ e => e
/-- a dict against an empty one -/
theorem neD0 {d e : Addr} {kvs : List (Int × Value)} {n : Nat} (hA : Ok A n) (F : Fs b env m cm G mu s) (x : DAt prog w G d kvs) (y : DAt prog w G e []) (h : Q (.bool (!(kvs.length == 0))) s) : wpAny (model prog w) A (compareOp .NotEq (.ref d) (.ref e)) Q E s := by
  refine keq_ne (knd := intKind prog w) (r := true) x.1 y.1 (F.f.dct x) (F.f.dct y) hA.cu (fun hl => ?_) (by simpa using h)
  have : kvs = [] := List.eq_nil_of_length_eq_zero (by simpa using hl)
  subst this
  exact .nil
theorem tests_nil {e' : Env} {Q : Bool → Shared → Prop} (h : Q true s) : wpAny (model prog w) A (testsOf [] e') Q E s := wpAny_pure h
theorem ints_split : ∀ {p q : List Int} {y : Int} {vs : List Value}, IntsAre vs (p ++ y :: q) → ∃ vp t vq, vs = vp ++ .int y t :: vq ∧ vp.length = p.length ∧ IntsAre (vp ++ vq) (p ++ q)
  | [], q, y, vs, h => by
    cases h with
    | cons n t r => exact ⟨[], t, _, rfl, rfl, r⟩
  | x :: p, q, y, vs, h => by
    cases h with
    | cons n t r =>
      obtain ⟨vp, t', vq, rfl, h1, h2⟩ := ints_split r
      exact ⟨.int x t :: vp, t', vq, rfl, by simp [h1], .cons x t h2⟩
end
end

/-! F5 -/
section
section
variable {w : World} {T : Heap} {A : Around} {G : View} {x : Addr} {names : List PySem.Str} {rvs : List Value} {rows : List Row} {sps : List Sp}
set_option pp.deepTerms false
set_option pp.deepTerms.threshold 3
set_option pp.maxSteps 1500
theorem place_ok {a : Int} {t1 : Tok} (C : Cx (KK w) T) (hA : Ok A 3) (H : TabAt G x names rvs rows sps) (O : SpsOk sps) :
    Calls PR w T A (.ref 49) [.ref x, .int a t1] G [] (fun G' _ v => ∃ k t, v = .int k t ∧ PlaceIs sps a k) := by
  refine Calls.of_def C (binds := [("self", .ref x), ("address", .int a t1)]) hA (by with_unfolding_all rfl) (by with_unfolding_all rfl) (by with_unfolding_all rfl) ?_ ?_ ?_
  · intro n x hx
    left
    simp only [List.mem_cons, List.not_mem_nil, or_false] at hx
    rcases hx with rfl | rfl <;> rfl
  · decide
  · clear hA; intro S L s A hA Q E F ret
    obtain ⟨hrv, ⟨hb1, hb2, hb3, hb4⟩, es, fl, rl, sl, nvs, svs, I, ef, er, es', el, hf, hfn, hr, hsl, hsp⟩ := H
    have l1 := hsp.len
    have l2 := hrv.len
    (refine execsK ?_; intro _ _ _; refine Assign_Tuple_swapped ?_ (by rfl) (by rfl); (with_reducible refine tupR ?_); (with_reducible refine wpAny_items_cons ?_ (by with_unfolding_all (intros; rfl))); (with_reducible refine constI F ?_); clear F; intro t s F; (with_reducible refine wpAny_items_cons ?_ (by with_unfolding_all (intros; rfl))); (with_reducible refine Call_ ?_ (by with_unfolding_all (intros; rfl))); refine nameB C F (by rfl) (by first | with_reducible exact PySem.boot_len | with_reducible exact PyProof.Rows.boot_range | with_reducible exact PyProof.Rows.boot_sorted | with_reducible exact PyProof.Rows.boot_list | with_reducible exact PyProof.Rows.boot_enumerate) (by decide) ?_; (with_reducible refine PyProof.Rows.callWith_builtin1 ?_ (by with_unfolding_all (intros; rfl)) (by with_unfolding_all (intros; rfl))); (with_reducible refine wpAny_items_cons ?_ (by with_unfolding_all (intros; rfl))); (with_reducible refine Attribute_any_ ?_ (by with_unfolding_all (intros; rfl))); refine nameL F (by first | rfl | assumption) ?_; refine attrG C F (by assumption) (clsOk106 _) (by first | with_reducible exact at_rows _ | with_reducible exact at_spans _ | with_reducible exact at_files _) (by first | assumption | rfl) (by rfl) ?_; clear F; intro s F; (with_reducible refine wpAny_items_nil ?_))
    refine lenL F (F.f.lstG hsl) (by lia) ?_
    clear F; intro t s F
    ((with_reducible refine wpAny_items_nil ?_))
    refine tup_end F ?_
    clear F; intro p1 s G1 le1 hp1 F
    skip
    refine unpackIT hA.handled F ⟨_, hp1⟩ (by rfl) ?_
    clear F; intro s F
    replace I := I.mono le1; replace hsl := hsl.mono le1
    replace hsp := hsp.mono (SpAt.mono le1)
    (refine inOrder_cons ?_; (with_reducible refine bindName_ ?_); refine storeL F ?_; clear F; intro s F; refine inOrder_cons ?_; (with_reducible refine bindName_ ?_); refine storeL F ?_; clear F; intro s F; refine inOrder_nil ?_; (with_reducible refine next_ (by assumption) ?_); refine execsK ?_; intro _ _ _)
    have key : ∀ (i : Nat), i < sps.length → ∃ v p aa ta1 ta2 ta3, sps[i]? = some p ∧ svs[i]? = some v ∧ v = .ref aa ∧ TupAt G1 aa [.int p.lo ta1, .int p.hi ta2, .int p.at_ ta3] := fun i hi => by
      obtain ⟨v, hv, aa, ta1, ta2, ta3, e, hta⟩ := hsp.get' (List.getElem?_eq_getElem hi)
      exact ⟨v, _, aa, ta1, ta2, ta3, List.getElem?_eq_getElem hi, hv, e, hta⟩
    let J : Nat → Nm → Nm → View → Mu → Prop := fun k m cm G' mu => E4 fun (lo hi : Nat) (tl th : Tok) => A10 (m "self" = some (.ref x)) (m "address" = some (.int a t1)) (m "low" = some (.int lo tl)) (m "high" = some (.int hi th)) (lo ≤ hi) (hi ≤ sps.length) ((∀ i p, i < lo → sps[i]? = some p → p.lo ≤ a)) ((∀ i p, hi ≤ i → sps[i]? = some p → a < p.lo)) (k = hi - lo) (mu = [])
    refine whileR F J sps.length ?_ ?_
    · exact ⟨0, svs.length, _, _, rfl, rfl, rfl, rfl, by lia, by lia, fun i p hi => absurd hi (Nat.not_lt_zero _), fun i p hi hp => (by rw [List.getElem?_eq_none (by lia)] at hp; cases hp), by lia, rfl⟩
    · clear F
      rintro k m₁ cm₁ G₁ mu₁ s E₁ le ⟨lo, hi, tl, th, ms, ma, ml, mh, h1, h2, h3, h4, rfl, rfl⟩ F
      intro _ _
      replace I := I.mono le; replace hsl := hsl.mono le
      ((with_reducible refine wpAny_isTrue_Compare1 ?_ (by with_unfolding_all (intros; rfl))); refine nameL F (by first | rfl | assumption) ?_; refine nameL F (by first | rfl | assumption) ?_; (with_reducible refine lt_int ?_); (with_reducible refine wpAny_truthy_bool ?_))
      refine splitB (fun hc => ?_) (fun hc => ?_)
      · have hc : lo < hi := by simpa using hc
        (refine execsK ?_; intro _ _ _; (with_reducible refine wpAny_Assign_Name ?_ (by with_unfolding_all (intros; rfl))); (with_reducible refine wpAny_BinOp ?_); (with_reducible refine wpAny_BinOp ?_); refine nameL F (by first | rfl | assumption) ?_; refine nameL F (by first | rfl | assumption) ?_; (with_reducible refine addI F ?_); clear F; intro t s F; (with_reducible refine constI F ?_); clear F; intro t s F; refine halfI hA.handled F ?_; clear F; intro t s F; refine storeL F ?_; clear F; intro s F; (with_reducible refine next_ (by assumption) ?_); refine execsK ?_; intro _ _ _; refine wpAny_If ?_; (with_reducible refine wpAny_isTrue_Compare1 ?_ (by with_unfolding_all (intros; rfl))); (with_reducible refine Subscript_ ?_); (with_reducible refine Subscript_ ?_); (with_reducible refine Attribute_any_ ?_ (by with_unfolding_all (intros; rfl))); refine nameL F (by first | rfl | assumption) ?_; refine attrG C F (by assumption) (clsOk106 _) (by first | with_reducible exact at_rows _ | with_reducible exact at_spans _ | with_reducible exact at_files _) (by first | assumption | rfl) (by rfl) ?_; clear F; intro s F; refine nameL F (by first | rfl | assumption) ?_)
        have em : ((lo : Int) + (hi : Int)) / 2 = (((lo + hi) / 2 : Nat) : Int) := by lia
        rw [em] at F
        obtain ⟨v, p, aa, ta1, ta2, ta3, hp, hv, rfl, hta⟩ := key ((lo + hi) / 2) (by lia)
        replace hta := hta.mono le
        rw [em]
        (refine itemLn F (by assumption) (by assumption) (by omega) ?_; (with_reducible refine constI F ?_); clear F; intro t s F; refine itemT (F.f.tup (by assumption)) (by decide) (by decide) (by rfl) ?_; refine nameL F (by first | rfl | assumption) ?_; (with_reducible refine PyProof.Rows.le_int ?_); (with_reducible refine wpAny_truthy_bool ?_))
        refine splitB (fun hd => ?_) (fun hd => ?_)
        · have hd : p.lo ≤ a := by simpa using hd
          (refine execsK ?_; intro _ _ _; (with_reducible refine wpAny_Assign_Name ?_ (by with_unfolding_all (intros; rfl))); (with_reducible refine wpAny_BinOp ?_); refine nameL F (by first | rfl | assumption) ?_; (with_reducible refine constI F ?_); clear F; intro t s F; (with_reducible refine addI F ?_); clear F; intro t s F; refine storeL F ?_; clear F; intro s F; (with_reducible refine next_ (by assumption) ?_); (with_reducible refine wpAny_execs_nil ?_); (with_reducible refine next_ (by assumption) ?_); (with_reducible refine wpAny_execs_nil ?_); (with_reducible refine lp_n (by assumption) ?_))
          refine ⟨_, _, _, _, [], ?_, Le.refl _, F, (lo + hi) / 2 + 1, hi, _, _, ms, ma, rfl, mh, by lia, h2, fun i q hq hs => ?_, h4, rfl, rfl⟩
          · lia
          · have := O.lo (by lia) hs hp; lia
        · have hd : a < p.lo := by simpa using hd
          (refine execsK ?_; intro _ _ _; (with_reducible refine wpAny_Assign_Name ?_ (by with_unfolding_all (intros; rfl))); refine nameL F (by first | rfl | assumption) ?_; refine storeL F ?_; clear F; intro s F; (with_reducible refine next_ (by assumption) ?_); (with_reducible refine wpAny_execs_nil ?_); (with_reducible refine next_ (by assumption) ?_); (with_reducible refine wpAny_execs_nil ?_); (with_reducible refine lp_n (by assumption) ?_))
          refine ⟨_, _, _, _, [], ?_, Le.refl _, F, lo, (lo + hi) / 2, _, _, ms, ma, ml, rfl, by lia, by lia, h3, fun i q hq hs => ?_, rfl, rfl⟩
          · lia
          · have := O.lo (by lia) hp hs; lia
      · have hc : lo = hi := by have : ¬ lo < hi := by simpa using hc
                                lia
        subst hc
        ((with_reducible refine next_ (by assumption) ?_); refine execsK ?_; intro _ _ _; (with_reducible refine wpAny_Return_some ?_); (with_reducible refine wpAny_IfExp ?_); (with_reducible refine wpAny_isTrue_BoolOp ?_); (with_reducible refine wpAny_allTrue_And_cons ?_); (with_reducible refine wpAny_isTrue_Compare1 ?_ (by with_unfolding_all (intros; rfl))); refine nameL F (by first | rfl | assumption) ?_; (with_reducible refine constI F ?_); clear F; intro t s F; (with_reducible refine PyProof.Rows.gt_int ?_); (with_reducible refine wpAny_truthy_bool ?_))
        refine splitB (fun hd => ?_) (fun hd => ?_)
        · have hd : 0 < lo := by simpa using hd
          ((with_reducible refine wpAny_allTrue_And_cons ?_); (with_reducible refine wpAny_isTrue_Compare1 ?_ (by with_unfolding_all (intros; rfl))); refine nameL F (by first | rfl | assumption) ?_; (with_reducible refine Subscript_ ?_); (with_reducible refine Subscript_ ?_); (with_reducible refine Attribute_any_ ?_ (by with_unfolding_all (intros; rfl))); refine nameL F (by first | rfl | assumption) ?_; refine attrG C F (by assumption) (clsOk106 _) (by first | with_reducible exact at_rows _ | with_reducible exact at_spans _ | with_reducible exact at_files _) (by first | assumption | rfl) (by rfl) ?_; clear F; intro s F; (with_reducible refine wpAny_BinOp ?_); refine nameL F (by first | rfl | assumption) ?_; (with_reducible refine constI F ?_); clear F; intro t s F; (with_reducible refine subI F ?_); clear F; intro t s F)
          have em : (lo : Int) - 1 = ((lo - 1 : Nat) : Int) := by lia
          rw [em]
          obtain ⟨v, p, aa, ta1, ta2, ta3, hp, hv, rfl, hta⟩ := key (lo - 1) (by lia)
          replace hta := hta.mono le
          (refine itemLn F (by assumption) (by assumption) (by omega) ?_; (with_reducible refine constI F ?_); clear F; intro t s F; refine itemT (F.f.tup (by assumption)) (by decide) (by decide) (by rfl) ?_; (with_reducible refine lt_int ?_); (with_reducible refine wpAny_truthy_bool ?_))
          refine splitB (fun hi => ?_) (fun hi => ?_)
          · have hi : a < p.hi := by simpa using hi
            ((with_reducible refine wpAny_allTrue_And_nil ?_); (with_reducible refine ifT ?_); (with_reducible refine wpAny_BinOp ?_); refine nameL F (by first | rfl | assumption) ?_; (with_reducible refine constI F ?_); clear F; intro t s F; (with_reducible refine subI F ?_); clear F; intro t s F; (with_reducible refine rt_ (by assumption) ?_))
            repeat (with_reducible first | refine rt_ (by assumption) ?_ | refine fo_ (by assumption) ?_ | refine lp_r (by assumption) ?_)
            exact ret s _ _ _ [] [] _ F (le1.trans le) rfl ⟨_, _, rfl, .inr ⟨lo - 1, p, by lia, hp, h3 _ _ (by lia) hp, hi⟩⟩
          · have hi : p.hi ≤ a := by simpa using hi
            ((with_reducible refine ifF ?_); (with_reducible refine wpAny_UnaryOp ?_); (with_reducible refine constI F ?_); clear F; intro t s F; (with_reducible refine negI F ?_); clear F; intro t s F; (with_reducible refine rt_ (by assumption) ?_))
            repeat (with_reducible first | refine rt_ (by assumption) ?_ | refine fo_ (by assumption) ?_ | refine lp_r (by assumption) ?_)
            refine ret s _ _ _ [] [] _ F (le1.trans le) rfl ⟨_, _, rfl, .inl ⟨rfl, fun q hq => ?_⟩⟩
            obtain ⟨i, hi'⟩ := List.mem_iff_getElem?.mp hq
            rintro ⟨e1, e2⟩
            rcases Nat.lt_or_ge i (lo - 1) with q1 | q1
            · have := O.ord i (lo - 1) _ _ q1 hi' hp
              have := O.room p (List.mem_of_getElem? hp)
              lia
            · by_cases q2 : i = lo - 1
              · subst q2; rw [hp] at hi'; cases hi'; lia
              · have := h4 i q (by lia) hi'; lia
        · have hd : lo = 0 := by have : ¬ 0 < lo := by simpa using hd
                                 lia
          subst hd
          ((with_reducible refine ifF ?_); (with_reducible refine wpAny_UnaryOp ?_); (with_reducible refine constI F ?_); clear F; intro t s F; (with_reducible refine negI F ?_); clear F; intro t s F; (with_reducible refine rt_ (by assumption) ?_))
          repeat (with_reducible first | refine rt_ (by assumption) ?_ | refine fo_ (by assumption) ?_ | refine lp_r (by assumption) ?_)
          refine ret s _ _ _ [] [] _ F (le1.trans le) rfl ⟨_, _, rfl, .inl ⟨rfl, fun q hq => ?_⟩⟩
          obtain ⟨i, hi'⟩ := List.mem_iff_getElem?.mp hq
          have := h4 i q (by lia) hi'
          lia
end
end

/-! F6 -/
section
section
variable {w : World} {T : Heap} {A : Around} {G : View} {x : Addr} {names : List PySem.Str} {rvs : List Value} {rows : List Row} {sps : List Sp}
set_option pp.deepTerms false
set_option pp.deepTerms.threshold 3
set_option pp.maxSteps 1500
theorem row_at_ok {a : Int} {t1 : Tok} (C : Cx (KK w) T) (hA : Ok A 5) (H : TabAt G x names rvs rows sps) (O : SpsOk sps) :
    Calls PR w T A (.ref 56) [.ref x, .int a t1] G [] (fun G' _ v => (v = .none ∧ ∀ p ∈ sps, ¬ (p.lo ≤ a ∧ a < p.hi)) ∨ ∃ p, p ∈ sps ∧ p.lo ≤ a ∧ a < p.hi ∧ rvs[p.at_]? = some v) := by
  refine Calls.of_def C (binds := [("self", .ref x), ("address", .int a t1)]) hA (by with_unfolding_all rfl) (by with_unfolding_all rfl) (by with_unfolding_all rfl) ?_ ?_ ?_
  · intro n x hx
    left
    simp only [List.mem_cons, List.not_mem_nil, or_false] at hx
    rcases hx with rfl | rfl <;> rfl
  · decide
  · clear hA; intro S L s A hA Q E F ret
    have H' := H
    obtain ⟨hrv, ⟨hb1, hb2, hb3, hb4⟩, es, fl, rl, sl, nvs, svs, I, ef, er, es', el, hf, hfn, hr, hsl, hsp⟩ := H
    have l1 := hsp.len
    have l2 := hrv.len
    (refine execsK ?_; intro _ _ _; (with_reducible refine wpAny_Assign_Name ?_ (by with_unfolding_all (intros; rfl))); (with_reducible refine MethodCall_ ?_ (by with_unfolding_all (intros; rfl))); refine nameL F (by first | rfl | assumption) ?_; refine methG C F (by assumption) (clsOk106 _) (by first | with_reducible exact me_like _ | with_reducible exact me_place _ | with_reducible exact me_number _ | with_reducible exact me_name _ | with_reducible exact me_row _ | with_reducible exact me_span _ | with_reducible exact me_begin _ | with_reducible exact me_lines _ | with_reducible exact me_from _ | with_reducible exact me_places _ | with_reducible exact me_second _) (by first | exact noName (by assumption) _ (by rfl) | rfl) ?_; refine callWith_K C.X (by rfl) ?_; (with_reducible refine wpAny_items_cons ?_ (by with_unfolding_all (intros; rfl))); refine nameL F (by first | rfl | assumption) ?_; (with_reducible refine wpAny_items_nil ?_); refine inAnd C F ?_)
    refine Fs.calls0 (place_ok C (hA.mono (by decide)) H' O) F ?_
    clear F; rintro s G1 _ le1 F ⟨k, tk, rfl, hk⟩
    (refine storeL F ?_; clear F; intro s F; (with_reducible refine next_ (by assumption) ?_); refine execsK ?_; intro _ _ _; (with_reducible refine wpAny_Return_some ?_); (with_reducible refine wpAny_IfExp ?_); (with_reducible refine wpAny_isTrue_Compare1 ?_ (by with_unfolding_all (intros; rfl))); refine nameL F (by first | rfl | assumption) ?_; (with_reducible refine constI F ?_); clear F; intro t s F; (with_reducible refine PyProof.Rows.ge_int ?_); (with_reducible refine wpAny_truthy_bool ?_))
    replace I := I.mono le1; replace hsl := hsl.mono le1; replace hr := hr.mono le1
    replace hsp := hsp.mono (SpAt.mono le1)
    rcases hk with ⟨rfl, hno⟩ | ⟨i, p, rfl, hp, hlo, hhi⟩
    · refine splitB (fun hd => absurd hd (by decide)) fun _ => ?_
      ((with_reducible refine wpAny_Constant_none ?_); (with_reducible refine rt_ (by assumption) ?_))
      repeat (with_reducible first | refine rt_ (by assumption) ?_ | refine fo_ (by assumption) ?_ | refine lp_r (by assumption) ?_)
      exact ret s _ _ _ [] [] _ F le1 rfl (.inl ⟨rfl, hno⟩)
    · refine splitB (fun _ => ?_) fun hd => absurd hd (by simp)
      obtain ⟨v, hv, aa, ta1, ta2, ta3, rfl, hta⟩ := hsp.get' hp
      have hat := hb4 _ (List.mem_of_getElem? hp)
      obtain ⟨rv, hrv', -⟩ := hrv.get' (List.getElem?_eq_getElem hat)
      ((with_reducible refine Subscript_ ?_); (with_reducible refine Attribute_any_ ?_ (by with_unfolding_all (intros; rfl))); refine nameL F (by first | rfl | assumption) ?_; refine attrG C F (by assumption) (clsOk106 _) (by first | with_reducible exact at_rows _ | with_reducible exact at_spans _ | with_reducible exact at_files _) (by first | assumption | rfl) (by rfl) ?_; clear F; intro s F; (with_reducible refine Subscript_ ?_); (with_reducible refine Subscript_ ?_); (with_reducible refine Attribute_any_ ?_ (by with_unfolding_all (intros; rfl))); refine nameL F (by first | rfl | assumption) ?_; refine attrG C F (by assumption) (clsOk106 _) (by first | with_reducible exact at_rows _ | with_reducible exact at_spans _ | with_reducible exact at_files _) (by first | assumption | rfl) (by rfl) ?_; clear F; intro s F; refine nameL F (by first | rfl | assumption) ?_; refine itemLn F (by assumption) (by assumption) (by omega) ?_; (with_reducible refine constI F ?_); clear F; intro t s F; refine itemT (F.f.tup (by assumption)) (by decide) (by decide) (by rfl) ?_; refine itemLn F (by assumption) (by assumption) (by omega) ?_; (with_reducible refine rt_ (by assumption) ?_))
      repeat (with_reducible first | refine rt_ (by assumption) ?_ | refine fo_ (by assumption) ?_ | refine lp_r (by assumption) ?_)
      exact ret s _ _ _ [] [] _ F le1 rfl (.inr ⟨p, List.mem_of_getElem? hp, hlo, hhi, hrv'⟩)

/-- where the code of one line around an address lies -/
def SpanIs (rows : List Row) (sps : List Sp) (a : Int) (r : Option (Int × Int)) : Prop := (r = none ∧ ∀ p ∈ sps, ¬ (p.lo ≤ a ∧ a < p.hi)) ∨
  ∃ (i l h : Nat) (p pl ph : Sp), r = some (pl.lo, ph.hi) ∧ sps[i]? = some p ∧ p.lo ≤ a ∧ a < p.hi ∧ l ≤ i ∧ i ≤ h ∧ sps[l]? = some pl ∧ sps[h]? = some ph ∧ (∀ j, l ≤ j → j < h → like rows sps j (j + 1) = true) ∧
    (l = 0 ∨ like rows sps (l - 1) l = false) ∧ (h + 1 = sps.length ∨ like rows sps h (h + 1) = false)
def OptPair (G : View) (v : Value) (r : Option (Int × Int)) : Prop := (r = none ∧ v = .none) ∨ ∃ lo hi t t1 t2, r = some (lo, hi) ∧ v = .ref t ∧ TupAt G t [.int lo t1, .int hi t2]
theorem OptPair.mono {G G' : View} {v : Value} {r : Option (Int × Int)} (x : OptPair G v r) (le : Le G G') : OptPair G' v r := x.imp id fun ⟨lo, hi, t, t1, t2, a, b, c⟩ => ⟨lo, hi, t, t1, t2, a, b, c.mono le⟩

theorem span_at_ok {a : Int} {t1 : Tok} (C : Cx (KK w) T) (hA : Ok A 5) (H : TabAt G x names rvs rows sps) (O : SpsOk sps) :
    Calls PR w T A (.ref 70) [.ref x, .int a t1] G [] (fun G' _ v => ∃ r, OptPair G' v r ∧ SpanIs rows sps a r) := by
  refine Calls.of_def C (binds := [("self", .ref x), ("address", .int a t1)]) hA (by with_unfolding_all rfl) (by with_unfolding_all rfl) (by with_unfolding_all rfl) ?_ ?_ ?_
  · intro n x hx
    left
    simp only [List.mem_cons, List.not_mem_nil, or_false] at hx
    rcases hx with rfl | rfl <;> rfl
  · decide
  · clear hA; intro S L s A hA Q E F ret
    have H' := H
    obtain ⟨hrv, ⟨hb1, hb2, hb3, hb4⟩, es, fl, rl, sl, nvs, svs, I, ef, er, es', el, hf, hfn, hr, hsl, hsp⟩ := H
    have l1 := hsp.len
    have l2 := hrv.len
    (refine execsK ?_; intro _ _ _; (with_reducible refine wpAny_Assign_Name ?_ (by with_unfolding_all (intros; rfl))); (with_reducible refine MethodCall_ ?_ (by with_unfolding_all (intros; rfl))); refine nameL F (by first | rfl | assumption) ?_; refine methG C F (by assumption) (clsOk106 _) (by first | with_reducible exact me_like _ | with_reducible exact me_place _ | with_reducible exact me_number _ | with_reducible exact me_name _ | with_reducible exact me_row _ | with_reducible exact me_span _ | with_reducible exact me_begin _ | with_reducible exact me_lines _ | with_reducible exact me_from _ | with_reducible exact me_places _ | with_reducible exact me_second _) (by first | exact noName (by assumption) _ (by rfl) | rfl) ?_; refine callWith_K C.X (by rfl) ?_; (with_reducible refine wpAny_items_cons ?_ (by with_unfolding_all (intros; rfl))); refine nameL F (by first | rfl | assumption) ?_; (with_reducible refine wpAny_items_nil ?_); refine inAnd C F ?_)
    refine Fs.calls0 (place_ok C (hA.mono (by decide)) H' O) F ?_
    clear F; rintro s G1 _ le1 F ⟨k, tk, rfl, hk⟩
    (refine storeL F ?_; clear F; intro s F; (with_reducible refine next_ (by assumption) ?_); refine execsK ?_; intro _ _ _; refine wpAny_If ?_; (with_reducible refine wpAny_isTrue_Compare1 ?_ (by with_unfolding_all (intros; rfl))); refine nameL F (by first | rfl | assumption) ?_; (with_reducible refine constI F ?_); clear F; intro t s F; (with_reducible refine lt_int ?_); (with_reducible refine wpAny_truthy_bool ?_))
    replace I := I.mono le1; replace hsl := hsl.mono le1; replace hr := hr.mono le1; replace H' := H'.mono le1
    replace hsp := hsp.mono (SpAt.mono le1)
    rcases hk with ⟨rfl, hno⟩ | ⟨i, p, rfl, hp, hlo, hhi⟩
    · refine splitB (fun _ => ?_) fun hd => absurd hd (by decide)
      (refine execsK ?_; intro _ _ _; (with_reducible refine wpAny_Return_some ?_); (with_reducible refine wpAny_Constant_none ?_); (with_reducible refine rt_ (by assumption) ?_); (with_reducible refine rt_ (by assumption) ?_))
      repeat (with_reducible first | refine rt_ (by assumption) ?_ | refine fo_ (by assumption) ?_ | refine lp_r (by assumption) ?_)
      exact ret s _ _ _ [] [] _ F le1 rfl ⟨none, .inl ⟨rfl, rfl⟩, .inl ⟨rfl, hno⟩⟩
    · refine splitB (fun hd => absurd hd (by simp)) fun _ => ?_
      have hi : i < sps.length := by
        rcases Nat.lt_or_ge i sps.length with q | q
        · exact q
        · rw [List.getElem?_eq_none q] at hp; cases hp
      ((with_reducible refine wpAny_execs_nil ?_); (with_reducible refine next_ (by assumption) ?_); refine execsK ?_; intro _ _ _; refine Assign_Tuple_swapped ?_ (by rfl) (by rfl); (with_reducible refine tupR ?_); (with_reducible refine wpAny_items_cons ?_ (by with_unfolding_all (intros; rfl))); refine nameL F (by first | rfl | assumption) ?_; (with_reducible refine wpAny_items_cons ?_ (by with_unfolding_all (intros; rfl))); refine nameL F (by first | rfl | assumption) ?_; (with_reducible refine wpAny_items_nil ?_))
      refine tup_end F ?_
      clear F; intro p1 s G2 le2 hp1 F
      skip
      refine unpackIT hA.handled F ⟨_, hp1⟩ (by rfl) ?_
      clear F; intro s F
      replace I := I.mono le2; replace hsl := hsl.mono le2; replace H' := H'.mono le2
      replace hsp := hsp.mono (SpAt.mono le2)
      (refine inOrder_cons ?_; (with_reducible refine bindName_ ?_); refine storeL F ?_; clear F; intro s F; refine inOrder_cons ?_; (with_reducible refine bindName_ ?_); refine storeL F ?_; clear F; intro s F; refine inOrder_nil ?_; (with_reducible refine next_ (by assumption) ?_); refine execsK ?_; intro _ _ _)
      let J : Nat → Nm → Nm → View → Mu → Prop := fun k m cm G' mu => E3 fun (l : Nat) (tl th : Tok) => A7 (m "self" = some (.ref x)) (m "low" = some (.int l tl)) (m "high" = some (.int i th)) (l ≤ i) ((∀ j, l ≤ j → j < i → like rows sps j (j + 1) = true)) (k = l) (mu = [])
      let Y : Nat → Nm → Nm → View → Mu → Prop := fun k m cm G' mu => J k m cm G' mu ∧ 0 < k ∧ like rows sps (k - 1) k = true
      let N : Nat → Nm → Nm → View → Mu → Prop := fun k m cm G' mu => J k m cm G' mu ∧ (k = 0 ∨ like rows sps (k - 1) k = false)
      refine whileT F J Y N i ⟨i, _, _, rfl, rfl, rfl, Nat.le_refl _, fun j h1 h2 => (by omega), rfl, rfl⟩ ?_ ?_ ?_
      · clear F
        rintro k m₁ cm₁ G₁ mu₁ s E₁ le ⟨l, tl, th, ms, ml, mh, h1, h2, rfl, rfl⟩ F
        replace I := I.mono le
        ((with_reducible refine wpAny_isTrue_BoolOp ?_); (with_reducible refine wpAny_allTrue_And_cons ?_); (with_reducible refine wpAny_isTrue_Compare1 ?_ (by with_unfolding_all (intros; rfl))); refine nameL F (by first | rfl | assumption) ?_; (with_reducible refine constI F ?_); clear F; intro t s F; (with_reducible refine PyProof.Rows.gt_int ?_); (with_reducible refine wpAny_truthy_bool ?_))
        refine splitB (fun hc => ?_) (fun hc => ?_)
        · have hc : 0 < k := by simpa using hc
          ((with_reducible refine wpAny_allTrue_And_cons ?_); (with_reducible refine wpAny_isTrue_value ?_ (by with_unfolding_all (intros; rfl))); (with_reducible refine MethodCall_ ?_ (by with_unfolding_all (intros; rfl))); refine nameL F (by first | rfl | assumption) ?_; refine methG C F (by assumption) (clsOk106 _) (by first | with_reducible exact me_like _ | with_reducible exact me_place _ | with_reducible exact me_number _ | with_reducible exact me_name _ | with_reducible exact me_row _ | with_reducible exact me_span _ | with_reducible exact me_begin _ | with_reducible exact me_lines _ | with_reducible exact me_from _ | with_reducible exact me_places _ | with_reducible exact me_second _) (by first | exact noName (by assumption) _ (by rfl) | rfl) ?_; refine callWith_K C.X (by rfl) ?_; (with_reducible refine wpAny_items_cons ?_ (by with_unfolding_all (intros; rfl))); (with_reducible refine wpAny_BinOp ?_); refine nameL F (by first | rfl | assumption) ?_; (with_reducible refine constI F ?_); clear F; intro t s F; (with_reducible refine subI F ?_); clear F; intro t s F; (with_reducible refine wpAny_items_cons ?_ (by with_unfolding_all (intros; rfl))); refine nameL F (by first | rfl | assumption) ?_; (with_reducible refine wpAny_items_nil ?_); refine inAnd C F ?_)
          have em : (k : Int) - 1 = ((k - 1 : Nat) : Int) := by omega
          rw [em]
          refine Fs.calls0 (like_ok C (hA.mono (by decide)) (H'.mono le) (by omega) (by omega)) F ?_
          clear F; rintro s G3 _ le3 F rfl
          cases hq : like rows sps (k - 1) k with
          | true =>
            ((with_reducible refine wpAny_truthy_bool ?_); (with_reducible refine ifT ?_); (with_reducible refine wpAny_allTrue_And_nil ?_))
            exact ⟨G3, [], le3, F, fun _ => ⟨⟨k, _, _, ms, ml, mh, h1, h2, rfl, rfl⟩, hc, hq⟩, fun e => nomatch e⟩
          | false =>
            ((with_reducible refine wpAny_truthy_bool ?_); (with_reducible refine ifF ?_))
            exact ⟨G3, [], le3, F, (fun e => nomatch e), fun _ => ⟨⟨k, _, _, ms, ml, mh, h1, h2, rfl, rfl⟩, .inr hq⟩⟩
        · have hc : k = 0 := by have : ¬ 0 < k := by simpa using hc
                                omega
          exact ⟨_, [], Le.refl _, F, (fun e => nomatch e), fun _ => ⟨⟨k, _, _, ms, ml, mh, h1, h2, rfl, rfl⟩, .inl hc⟩⟩
      · clear F
        rintro k m₁ cm₁ G₁ mu₁ s E₁ le ⟨⟨l, tl, th, ms, ml, mh, h1, h2, rfl, rfl⟩, hk, hq⟩ F
        intro _ _
        (refine execsK ?_; intro _ _ _; (with_reducible refine wpAny_AugAssign_Name ?_); refine loadL F (by first | rfl | assumption) ?_; (with_reducible refine constI F ?_); clear F; intro t s F; (with_reducible refine isubI F ?_); clear F; intro t s F; refine storeL F ?_; clear F; intro s F; (with_reducible refine next_ (by assumption) ?_); (with_reducible refine wpAny_execs_nil ?_); (with_reducible refine lp_n (by assumption) ?_))
        refine ⟨k - 1, _, _, _, [], by omega, Le.refl _, F, k - 1, t, _, ms, ?_, mh, by omega, fun j h3 h4 => ?_, rfl, rfl⟩
        · rw [show ((k - 1 : Nat) : Int) = (k : Int) - 1 by omega]; rfl
        · by_cases e : j = k - 1
          · subst e; rw [show k - 1 + 1 = k by omega]; exact hq
          · exact h2 j (by omega) h4
      · clear F
        rintro k m₁ cm₁ G₁ mu₁ s le ⟨⟨l, tl, th, ms, ml, mh, h1, h2, rfl, rfl⟩, hk⟩ F
        replace I := I.mono le; replace hsl := hsl.mono le; replace H' := H'.mono le; replace hsp := hsp.mono (SpAt.mono le)
        ((with_reducible refine next_ (by assumption) ?_); refine execsK ?_; intro _ _ _)
        let J : Nat → Nm → Nm → View → Mu → Prop := fun k2 m cm G' mu => E3 fun (h : Nat) (tl th : Tok) => A8 (m "self" = some (.ref x)) (m "low" = some (.int k tl)) (m "high" = some (.int h th)) (i ≤ h) (h < sps.length) ((∀ j, i ≤ j → j < h → like rows sps j (j + 1) = true)) (k2 = sps.length - h) (mu = [])
        let Y : Nat → Nm → Nm → View → Mu → Prop := fun k2 m cm G' mu => J k2 m cm G' mu ∧ 1 < k2 ∧ like rows sps (sps.length - k2) (sps.length - k2 + 1) = true
        let N : Nat → Nm → Nm → View → Mu → Prop := fun k2 m cm G' mu => J k2 m cm G' mu ∧ (k2 = 1 ∨ like rows sps (sps.length - k2) (sps.length - k2 + 1) = false)
        refine whileT F J Y N (sps.length - i) ⟨i, _, _, ms, ml, mh, Nat.le_refl _, hi, fun j h1 h2 => (by omega), rfl, rfl⟩ ?_ ?_ ?_
        · clear F ms ml mh
          rintro k2 m₁ cm₁ G₂ mu₁ s E₁ le' ⟨h, tl, th, ms, ml, mh, h3, h4, h5, rfl, rfl⟩ F
          replace I := I.mono le'; replace hsl := hsl.mono le'
          ((with_reducible refine wpAny_isTrue_BoolOp ?_); (with_reducible refine wpAny_allTrue_And_cons ?_); (with_reducible refine wpAny_isTrue_Compare1 ?_ (by with_unfolding_all (intros; rfl))); (with_reducible refine wpAny_BinOp ?_); refine nameL F (by first | rfl | assumption) ?_; (with_reducible refine constI F ?_); clear F; intro t s F; (with_reducible refine addI F ?_); clear F; intro t s F; (with_reducible refine Call_ ?_ (by with_unfolding_all (intros; rfl))); refine nameB C F (by rfl) (by first | with_reducible exact PySem.boot_len | with_reducible exact PyProof.Rows.boot_range | with_reducible exact PyProof.Rows.boot_sorted | with_reducible exact PyProof.Rows.boot_list | with_reducible exact PyProof.Rows.boot_enumerate) (by decide) ?_; (with_reducible refine PyProof.Rows.callWith_builtin1 ?_ (by with_unfolding_all (intros; rfl)) (by with_unfolding_all (intros; rfl))); (with_reducible refine wpAny_items_cons ?_ (by with_unfolding_all (intros; rfl))); (with_reducible refine Attribute_any_ ?_ (by with_unfolding_all (intros; rfl))); refine nameL F (by first | rfl | assumption) ?_; refine attrG C F (by assumption) (clsOk106 _) (by first | with_reducible exact at_rows _ | with_reducible exact at_spans _ | with_reducible exact at_files _) (by first | assumption | rfl) (by rfl) ?_; clear F; intro s F; (with_reducible refine wpAny_items_nil ?_))
          refine lenL F (F.f.lstG hsl) (by omega) ?_
          clear F; intro t s F
          ((with_reducible refine lt_int ?_); (with_reducible refine wpAny_truthy_bool ?_))
          refine splitB (fun hc => ?_) (fun hc => ?_)
          · have hc : h + 1 < sps.length := by have : (h : Int) + 1 < svs.length := by simpa using hc
                                               omega
            ((with_reducible refine wpAny_allTrue_And_cons ?_); (with_reducible refine wpAny_isTrue_value ?_ (by with_unfolding_all (intros; rfl))); (with_reducible refine MethodCall_ ?_ (by with_unfolding_all (intros; rfl))); refine nameL F (by first | rfl | assumption) ?_; refine methG C F (by assumption) (clsOk106 _) (by first | with_reducible exact me_like _ | with_reducible exact me_place _ | with_reducible exact me_number _ | with_reducible exact me_name _ | with_reducible exact me_row _ | with_reducible exact me_span _ | with_reducible exact me_begin _ | with_reducible exact me_lines _ | with_reducible exact me_from _ | with_reducible exact me_places _ | with_reducible exact me_second _) (by first | exact noName (by assumption) _ (by rfl) | rfl) ?_; refine callWith_K C.X (by rfl) ?_; (with_reducible refine wpAny_items_cons ?_ (by with_unfolding_all (intros; rfl))); refine nameL F (by first | rfl | assumption) ?_; (with_reducible refine wpAny_items_cons ?_ (by with_unfolding_all (intros; rfl))); (with_reducible refine wpAny_BinOp ?_); refine nameL F (by first | rfl | assumption) ?_; (with_reducible refine constI F ?_); clear F; intro t s F; (with_reducible refine addI F ?_); clear F; intro t s F; (with_reducible refine wpAny_items_nil ?_); refine inAnd C F ?_)
            have em : (h : Int) + 1 = ((h + 1 : Nat) : Int) := by omega
            rw [em]
            refine Fs.calls0 (like_ok C (hA.mono (by decide)) (H'.mono le') (by omega) (by omega)) F ?_
            clear F; rintro s G3 _ le3 F rfl
            cases hq : like rows sps h (h + 1) with
            | true =>
              ((with_reducible refine wpAny_truthy_bool ?_); (with_reducible refine ifT ?_); (with_reducible refine wpAny_allTrue_And_nil ?_))
              exact ⟨G3, [], le3, F, fun _ => ⟨⟨h, _, _, ms, ml, mh, h3, h4, h5, rfl, rfl⟩, by omega, by rw [show sps.length - (sps.length - h) = h by omega]; exact hq⟩, fun e => nomatch e⟩
            | false =>
              ((with_reducible refine wpAny_truthy_bool ?_); (with_reducible refine ifF ?_))
              exact ⟨G3, [], le3, F, (fun e => nomatch e), fun _ => ⟨⟨h, _, _, ms, ml, mh, h3, h4, h5, rfl, rfl⟩, .inr (by rw [show sps.length - (sps.length - h) = h by omega]; exact hq)⟩⟩
          · have hc : sps.length - h = 1 := by have : ¬ (h : Int) + 1 < svs.length := by simpa using hc
                                               omega
            exact ⟨_, [], Le.refl _, F, (fun e => nomatch e), fun _ => ⟨⟨h, _, _, ms, ml, mh, h3, h4, h5, rfl, rfl⟩, .inl hc⟩⟩
        · clear F ms ml mh
          rintro k2 m₁ cm₁ G₂ mu₁ s E₁ le' ⟨⟨h, tl, th, ms, ml, mh, h3, h4, h5, rfl, rfl⟩, h6, h7⟩ F
          intro _ _
          rw [show sps.length - (sps.length - h) = h by omega] at h7
          (refine execsK ?_; intro _ _ _; (with_reducible refine wpAny_AugAssign_Name ?_); refine loadL F (by first | rfl | assumption) ?_; (with_reducible refine constI F ?_); clear F; intro t s F; (with_reducible refine iaddI F ?_); clear F; intro t s F; refine storeL F ?_; clear F; intro s F; (with_reducible refine next_ (by assumption) ?_); (with_reducible refine wpAny_execs_nil ?_); (with_reducible refine lp_n (by assumption) ?_))
          refine ⟨sps.length - (h + 1), _, _, _, [], by omega, Le.refl _, F, h + 1, _, t, ms, ml, ?_, by omega, by omega, fun j h8 h9 => ?_, rfl, rfl⟩
          · rw [show ((h + 1 : Nat) : Int) = (h : Int) + 1 by omega]; rfl
          · by_cases e : j = h
            · subst e; exact h7
            · exact h5 j h8 (by omega)
        · clear F ms ml mh
          rintro k2 m₁ cm₁ G₂ mu₁ s le' ⟨⟨h, tl, th, ms, ml, mh, h3, h4, h5, rfl, rfl⟩, h6⟩ F
          rw [show sps.length - (sps.length - h) = h by omega] at h6
          replace I := I.mono le'; replace hsl := hsl.mono le'; replace hsp := hsp.mono (SpAt.mono le')
          obtain ⟨va, hva, aa, ta1, ta2, ta3, rfl, hta⟩ := hsp.get' (List.getElem?_eq_getElem (show k < sps.length by omega))
          obtain ⟨vb, hvb, ab, tb1, tb2, tb3, rfl, htb⟩ := hsp.get' (List.getElem?_eq_getElem h4)
          ((with_reducible refine next_ (by assumption) ?_); refine execsK ?_; intro _ _ _; (with_reducible refine wpAny_Return_some ?_); (with_reducible refine tupR ?_); (with_reducible refine wpAny_items_cons ?_ (by with_unfolding_all (intros; rfl))); (with_reducible refine Subscript_ ?_); (with_reducible refine Subscript_ ?_); (with_reducible refine Attribute_any_ ?_ (by with_unfolding_all (intros; rfl))); refine nameL F (by first | rfl | assumption) ?_; refine attrG C F (by assumption) (clsOk106 _) (by first | with_reducible exact at_rows _ | with_reducible exact at_spans _ | with_reducible exact at_files _) (by first | assumption | rfl) (by rfl) ?_; clear F; intro s F; refine nameL F (by first | rfl | assumption) ?_; refine itemLn F (by assumption) (by assumption) (by omega) ?_; (with_reducible refine constI F ?_); clear F; intro t s F; refine itemT (F.f.tup (by assumption)) (by decide) (by decide) (by rfl) ?_; (with_reducible refine wpAny_items_cons ?_ (by with_unfolding_all (intros; rfl))); (with_reducible refine Subscript_ ?_); (with_reducible refine Subscript_ ?_); (with_reducible refine Attribute_any_ ?_ (by with_unfolding_all (intros; rfl))); refine nameL F (by first | rfl | assumption) ?_; refine attrG C F (by assumption) (clsOk106 _) (by first | with_reducible exact at_rows _ | with_reducible exact at_spans _ | with_reducible exact at_files _) (by first | assumption | rfl) (by rfl) ?_; clear F; intro s F; refine nameL F (by first | rfl | assumption) ?_; refine itemLn F (by assumption) (by assumption) (by omega) ?_; (with_reducible refine constI F ?_); clear F; intro t s F; refine itemT (F.f.tup (by assumption)) (by decide) (by decide) (by rfl) ?_; (with_reducible refine wpAny_items_nil ?_))
          refine tup_end F ?_
          clear F; intro p3 s G4 le4 hp3 F
          repeat (with_reducible first | refine rt_ (by assumption) ?_ | refine fo_ (by assumption) ?_ | refine lp_r (by assumption) ?_)
          refine ret s _ _ _ [] [] _ F ((((le1.trans le2).trans le).trans le').trans le4) rfl ⟨some (sps[k].lo, sps[h].hi), .inr ⟨_, _, p3, _, _, rfl, rfl, ⟨_, hp3⟩⟩, .inr ⟨i, k, h, p, sps[k], sps[h], rfl, hp, hlo, hhi, h1, h3, List.getElem?_eq_getElem _, List.getElem?_eq_getElem _, fun j hj1 hj2 => ?_, hk, ?_⟩⟩
          · by_cases e : j < i
            · exact h2 j hj1 e
            · exact h5 j (by omega) hj2
          · rcases h6 with h6 | h6
            · exact .inl (by omega)
            · exact .inr h6
end
end

/-! F7 -/
section
/-- a list of ints -/
def IntsIs (G : View) (v : Value) (xs : List Int) : Prop := ∃ a vs, v = .ref a ∧ LstAt G a vs ∧ IntsAre vs xs
theorem IntsIs.mono {G G' : View} {v : Value} {xs : List Int} (x : IntsIs G v xs) (le : Le G G') : IntsIs G' v xs := let ⟨a, vs, e, h, k⟩ := x; ⟨a, vs, e, h.mono le, k⟩
theorem intsApp : ∀ {vs us : List Value} {xs ys : List Int}, IntsAre vs xs → IntsAre us ys → IntsAre (vs ++ us) (xs ++ ys)
  | _, _, _, _, .nil, h => h
  | _, _, _, _, .cons n t r, h => .cons n t (intsApp r h)

/-- the beginnings of a line's code, place by place -/
def begs (rows : List Row) (sps : List Sp) (number line : Int) : Nat → List Int × Bool
  | 0 => ([], false)
  | k + 1 =>
    let told := if k = 0 ∨ like rows sps (k - 1) k = false then false else (begs rows sps number line k).2
    match sps[k]? with
    | some p => (match rows[p.at_]? with
      | some r => if (r.file = number ∧ r.line = line) ∧ r.stmt = true ∧ told = false then ((begs rows sps number line k).1 ++ [p.lo], true) else ((begs rows sps number line k).1, told)
      | none => ((begs rows sps number line k).1, told))
    | none => ((begs rows sps number line k).1, told)
theorem begs_len (rows : List Row) (sps : List Sp) (number line : Int) : ∀ k, (begs rows sps number line k).1.length ≤ k
  | 0 => Nat.le_refl _
  | k + 1 => by
    have := begs_len rows sps number line k
    unfold begs
    dsimp only
    repeat' split
    all_goals (try simp only [List.length_append, List.length_singleton]); omega

section
variable {w : World} {T : Heap} {A : Around} {G : View} {x : Addr} {names : List PySem.Str} {rvs : List Value} {rows : List Row} {sps : List Sp}
set_option pp.deepTerms false
set_option pp.deepTerms.threshold 3
set_option pp.maxSteps 1500
theorem begin_ok {number line : Int} {t1 t2 : Tok} (C : Cx (KK w) T) (hA : Ok A 5) (H : TabAt G x names rvs rows sps) :
    Calls PR w T A (.ref 77) [.ref x, .int number t1, .int line t2] G [] (fun G' _ v => IntsIs G' v (begs rows sps number line sps.length).1) := by
  refine Calls.of_def C (binds := [("self", .ref x), ("number", .int number t1), ("line", .int line t2)]) hA (by with_unfolding_all rfl) (by with_unfolding_all rfl) (by with_unfolding_all rfl) ?_ ?_ ?_
  · intro n x hx
    left
    simp only [List.mem_cons, List.not_mem_nil, or_false] at hx
    rcases hx with rfl | rfl | rfl <;> rfl
  · decide
  · clear hA; intro S L s A hA Q E F ret
    have H' := H
    obtain ⟨hrv, ⟨hb1, hb2, hb3, hb4⟩, es, fl, rl, sl, nvs, svs, I, ef, er, es', el, hf, hfn, hr, hsl, hsp⟩ := H
    have l1 := hsp.len
    have l2 := hrv.len
    (refine execsK ?_; intro _ _ _; refine Assign_Tuple_swapped ?_ (by rfl) (by rfl); (with_reducible refine tupR ?_); (with_reducible refine wpAny_items_cons ?_ (by with_unfolding_all (intros; rfl))); (with_reducible refine lstR ?_); (with_reducible refine wpAny_items_nil ?_))
    refine lst_endM F ?_
    clear F; intro l s F
    ((with_reducible refine wpAny_items_cons ?_ (by with_unfolding_all (intros; rfl))); (with_reducible refine wpAny_Constant_bool ?_); (with_reducible refine wpAny_items_nil ?_))
    refine tup_end F ?_
    clear F; intro p1 s G1 le1 hp1 F
    skip
    refine unpackIT hA.handled F ⟨_, hp1⟩ (by rfl) ?_
    clear F; intro s F
    replace I := I.mono le1; replace hsl := hsl.mono le1; replace hr := hr.mono le1; replace H' := H'.mono le1
    replace hsp := hsp.mono (SpAt.mono le1); replace hrv := hrv.mono (RowAt.mono le1)
    (refine inOrder_cons ?_; (with_reducible refine bindName_ ?_); refine storeL F ?_; clear F; intro s F; refine inOrder_cons ?_; (with_reducible refine bindName_ ?_); refine storeL F ?_; clear F; intro s F; refine inOrder_nil ?_; (with_reducible refine next_ (by assumption) ?_); refine execsK ?_; intro _ _ _; (with_reducible refine For_ ?_ (by with_unfolding_all (intros; rfl))); intro _ _; (with_reducible refine Call_ ?_ (by with_unfolding_all (intros; rfl))); refine nameB C F (by rfl) (by first | with_reducible exact PySem.boot_len | with_reducible exact PyProof.Rows.boot_range | with_reducible exact PyProof.Rows.boot_sorted | with_reducible exact PyProof.Rows.boot_list | with_reducible exact PyProof.Rows.boot_enumerate) (by decide) ?_; (with_reducible refine PyProof.Rows.callWith_type1 ?_ (by with_unfolding_all (intros; rfl)) (by with_unfolding_all (intros; rfl))); (with_reducible refine wpAny_items_cons ?_ (by with_unfolding_all (intros; rfl))); (with_reducible refine Call_ ?_ (by with_unfolding_all (intros; rfl))); refine nameB C F (by rfl) (by first | with_reducible exact PySem.boot_len | with_reducible exact PyProof.Rows.boot_range | with_reducible exact PyProof.Rows.boot_sorted | with_reducible exact PyProof.Rows.boot_list | with_reducible exact PyProof.Rows.boot_enumerate) (by decide) ?_; (with_reducible refine PyProof.Rows.callWith_builtin1 ?_ (by with_unfolding_all (intros; rfl)) (by with_unfolding_all (intros; rfl))); (with_reducible refine wpAny_items_cons ?_ (by with_unfolding_all (intros; rfl))); (with_reducible refine Attribute_any_ ?_ (by with_unfolding_all (intros; rfl))); refine nameL F (by first | rfl | assumption) ?_; refine attrG C F (by assumption) (clsOk106 _) (by first | with_reducible exact at_rows _ | with_reducible exact at_spans _ | with_reducible exact at_files _) (by first | assumption | rfl) (by rfl) ?_; clear F; intro s F; (with_reducible refine wpAny_items_nil ?_))
    refine lenL F (F.f.lstG hsl) (by omega) ?_
    clear F; intro t s F
    ((with_reducible refine wpAny_items_nil ?_))
    refine rng1 F ?_
    clear F; intro rg s G2 le2 hrg F
    replace I := I.mono le2; replace hsl := hsl.mono le2; replace hr := hr.mono le2; replace H' := H'.mono le2
    replace hsp := hsp.mono (SpAt.mono le2); replace hrv := hrv.mono (RowAt.mono le2)
    let J : Nat → Nm → Nm → View → Mu → Prop := fun i m cm G' mu => E2 fun vs n => A7 (mu = [(l, PySem.W.listOf vs.toArray n)]) (IntsAre vs (begs rows sps number line i).1) (m "self" = some (.ref x)) (m "number" = some (.int number t1)) (m "line" = some (.int line t2)) (m "found" = some (.ref l)) (m "is_told" = some (.bool (begs rows sps number line i).2))
    refine loopR hA.handled F hrg (by decide) (by decide) (by omega) (by omega) J ⟨[], _, rfl, .nil, rfl, rfl, rfl, rfl, rfl⟩ ?_ ?_
    · clear F
      rintro i ti m₁ cm₁ G₁ mu₁ p s E₁ hi le ⟨vs, n, rfl, hvs, ms, mn, ml, mf, mt⟩ F
      intro _ _
      replace I := I.mono le; replace hsl := hsl.mono le; replace hr := hr.mono le; replace H' := H'.mono le
      replace hsp := hsp.mono (SpAt.mono le); replace hrv := hrv.mono (RowAt.mono le)
      rw [Int.zero_add] at F
      have hi' : i < sps.length := by omega
      obtain ⟨v, hv, aa, ta1, ta2, ta3, rfl, hta⟩ := hsp.get' (List.getElem?_eq_getElem hi')
      have hat := hb4 _ (List.getElem_mem hi')
      obtain ⟨rv, hrv', xa, esa, u1, u2, u3, rfl, Ia, ea1, ea2, ea3, ea4, ea5⟩ := hrv.get' (List.getElem?_eq_getElem hat)
      (refine execsK ?_; intro _ _ _; (with_reducible refine wpAny_Assign_Name ?_ (by with_unfolding_all (intros; rfl))); (with_reducible refine Subscript_ ?_); (with_reducible refine Attribute_any_ ?_ (by with_unfolding_all (intros; rfl))); refine nameL F (by first | rfl | assumption) ?_; refine attrG C F (by assumption) (clsOk106 _) (by first | with_reducible exact at_rows _ | with_reducible exact at_spans _ | with_reducible exact at_files _) (by first | assumption | rfl) (by rfl) ?_; clear F; intro s F; (with_reducible refine Subscript_ ?_); (with_reducible refine Subscript_ ?_); (with_reducible refine Attribute_any_ ?_ (by with_unfolding_all (intros; rfl))); refine nameL F (by first | rfl | assumption) ?_; refine attrG C F (by assumption) (clsOk106 _) (by first | with_reducible exact at_rows _ | with_reducible exact at_spans _ | with_reducible exact at_files _) (by first | assumption | rfl) (by rfl) ?_; clear F; intro s F; refine nameL F (by first | rfl | assumption) ?_; refine itemLn F (by assumption) (by assumption) (by omega) ?_; (with_reducible refine constI F ?_); clear F; intro t s F; refine itemT (F.f.tup (by assumption)) (by decide) (by decide) (by rfl) ?_; refine itemLn F (by assumption) (by assumption) (by omega) ?_; refine storeL F ?_; clear F; intro s F; (with_reducible refine next_ (by assumption) ?_); refine execsK ?_; intro _ _ _)
      refine ifS F (fun G' mu' c => mu' = [(l, PySem.W.listOf vs.toArray n)] ++ [p] ∧ c = decide (i = 0 ∨ like rows sps (i - 1) i = false)) ?_ ?_
      · intro E
        ((with_reducible refine wpAny_isTrue_BoolOp ?_); (with_reducible refine wpAny_allTrue_Or_cons ?_); (with_reducible refine wpAny_isTrue_Compare1 ?_ (by with_unfolding_all (intros; rfl))); refine nameL F (by first | rfl | assumption) ?_; (with_reducible refine constI F ?_); clear F; intro t s F; (with_reducible refine eq_int ?_); (with_reducible refine wpAny_truthy_bool ?_))
        refine splitB (fun hc => ?_) (fun hc => ?_)
        · have hc : i = 0 := by simpa using hc
          exact ⟨G₁, _, Le.refl _, F, rfl, by simp [hc]⟩
        · have hc : i ≠ 0 := by simpa using hc
          ((with_reducible refine wpAny_allTrue_Or_cons ?_); (with_reducible refine wpAny_isTrue_Not ?_); (with_reducible refine wpAny_isTrue_value ?_ (by with_unfolding_all (intros; rfl))); (with_reducible refine MethodCall_ ?_ (by with_unfolding_all (intros; rfl))); refine nameL F (by first | rfl | assumption) ?_; refine methG C F (by assumption) (clsOk106 _) (by first | with_reducible exact me_like _ | with_reducible exact me_place _ | with_reducible exact me_number _ | with_reducible exact me_name _ | with_reducible exact me_row _ | with_reducible exact me_span _ | with_reducible exact me_begin _ | with_reducible exact me_lines _ | with_reducible exact me_from _ | with_reducible exact me_places _ | with_reducible exact me_second _) (by first | exact noName (by assumption) _ (by rfl) | rfl) ?_; refine callWith_K C.X (by rfl) ?_; (with_reducible refine wpAny_items_cons ?_ (by with_unfolding_all (intros; rfl))); (with_reducible refine wpAny_BinOp ?_); refine nameL F (by first | rfl | assumption) ?_; (with_reducible refine constI F ?_); clear F; intro t s F; (with_reducible refine subI F ?_); clear F; intro t s F; (with_reducible refine wpAny_items_cons ?_ (by with_unfolding_all (intros; rfl))); refine nameL F (by first | rfl | assumption) ?_; (with_reducible refine wpAny_items_nil ?_); refine inAnd C F ?_)
          have em : (i : Int) - 1 = ((i - 1 : Nat) : Int) := by omega
          rw [em]
          refine Fs.calls0 (like_ok C (hA.mono (by decide)) H' (by omega) (by omega)) F ?_
          clear F; rintro s G3 _ le3 F rfl
          cases hq : like rows sps (i - 1) i with
          | true =>
            ((with_reducible refine wpAny_truthy_bool ?_); refine ifF ?_; (with_reducible refine wpAny_allTrue_Or_nil ?_))
            exact ⟨G3, _, le3, F, rfl, by simp [hc]⟩
          | false =>
            ((with_reducible refine wpAny_truthy_bool ?_); refine ifT ?_)
            exact ⟨G3, _, le3, F, rfl, by simp⟩
      clear F
      rintro c G3 _ s le3 F ⟨rfl, hc⟩
      refine joinSt F (fun m' => m' "self" = some (.ref x) ∧ m' "number" = some (.int number t1) ∧ m' "line" = some (.int line t2) ∧ m' "found" = some (.ref l) ∧ m' "row" = some (.ref xa) ∧ m' "place" = some (.int i ti) ∧ m' "is_told" = some (.bool (if i = 0 ∨ like rows sps (i - 1) i = false then false else (begs rows sps number line i).2))) (fun hd => ?_) (fun hd => ?_) ?_
      · (refine execsK ?_; intro _ _ _; (with_reducible refine wpAny_Assign_Name ?_ (by with_unfolding_all (intros; rfl))); (with_reducible refine wpAny_Constant_bool ?_); refine storeL F ?_; clear F; intro s F; (with_reducible refine next_ (by assumption) ?_); (with_reducible refine wpAny_execs_nil ?_))
        refine ⟨rfl, _, ?_, F⟩
        rw [hd] at hc
        have hc := (of_decide_eq_true hc.symm)
        refine ⟨ms, mn, ml, mf, rfl, rfl, ?_⟩
        rw [if_pos hc]; rfl
      · ((with_reducible refine wpAny_execs_nil ?_))
        refine ⟨rfl, _, ?_, F⟩
        rw [hd] at hc
        have hc := (of_decide_eq_false hc.symm)
        refine ⟨ms, mn, ml, mf, rfl, rfl, ?_⟩
        rw [if_neg hc]; exact mt
      clear F ms mn ml mf mt
      rintro m₁ s ⟨ms, mn, ml, mf, mr, mp, mt⟩ F
      replace I := I.mono le3; replace hsl := hsl.mono le3; replace hr := hr.mono le3; replace Ia := Ia.mono le3; replace hta := hta.mono le3
      ((with_reducible refine next_ (by assumption) ?_); refine execsK ?_; intro _ _ _)
      have hb : begs rows sps number line (i + 1) = (if (rows[sps[i].at_].file = number ∧ rows[sps[i].at_].line = line) ∧ rows[sps[i].at_].stmt = true ∧ (if i = 0 ∨ like rows sps (i - 1) i = false then false else (begs rows sps number line i).2) = false
          then ((begs rows sps number line i).1 ++ [sps[i].lo], true) else ((begs rows sps number line i).1, (if i = 0 ∨ like rows sps (i - 1) i = false then false else (begs rows sps number line i).2))) := by
        rw [begs]; simp only [List.getElem?_eq_getElem hi', List.getElem?_eq_getElem hat]
      generalize (if i = 0 ∨ like rows sps (i - 1) i = false then false else (begs rows sps number line i).2) = told at hb mt
      refine ifS F (fun G' mu' c => mu' = [(l, PySem.W.listOf vs.toArray n)] ++ [p] ∧ c = decide ((rows[sps[i].at_].file = number ∧ rows[sps[i].at_].line = line) ∧ rows[sps[i].at_].stmt = true ∧ told = false)) ?_ ?_
      · intro E
        ((with_reducible refine wpAny_isTrue_BoolOp ?_); (with_reducible refine wpAny_allTrue_And_cons ?_); (with_reducible refine wpAny_isTrue_Compare1 ?_ (by with_unfolding_all (intros; rfl))); (with_reducible refine tupR ?_); (with_reducible refine wpAny_items_cons ?_ (by with_unfolding_all (intros; rfl))); (with_reducible refine Attribute_any_ ?_ (by with_unfolding_all (intros; rfl))); refine nameL F (by first | rfl | assumption) ?_; refine attrG C F (by assumption) (clsOk127 _) (by first | with_reducible exact at_address _ | with_reducible exact at_file _ | with_reducible exact at_line _ | with_reducible exact at_is_stmt _ | with_reducible exact at_is_end _) (by first | assumption | rfl) (by rfl) ?_; clear F; intro s F; (with_reducible refine wpAny_items_cons ?_ (by with_unfolding_all (intros; rfl))); (with_reducible refine Attribute_any_ ?_ (by with_unfolding_all (intros; rfl))); refine nameL F (by first | rfl | assumption) ?_; refine attrG C F (by assumption) (clsOk127 _) (by first | with_reducible exact at_address _ | with_reducible exact at_file _ | with_reducible exact at_line _ | with_reducible exact at_is_stmt _ | with_reducible exact at_is_end _) (by first | assumption | rfl) (by rfl) ?_; clear F; intro s F; (with_reducible refine wpAny_items_nil ?_))
        refine tup_end F ?_
        clear F; intro p2 s G4 le4 hp2 F
        ((with_reducible refine tupR ?_); (with_reducible refine wpAny_items_cons ?_ (by with_unfolding_all (intros; rfl))); refine nameL F (by first | rfl | assumption) ?_; (with_reducible refine wpAny_items_cons ?_ (by with_unfolding_all (intros; rfl))); refine nameL F (by first | rfl | assumption) ?_; (with_reducible refine wpAny_items_nil ?_))
        refine tup_end F ?_
        clear F; intro p3 s G5 le5 hp3 F
        replace Ia := Ia.mono (le4.trans le5)
        refine eqTT hA F ⟨_, le5 _ _ hp2⟩ (.cons _ _ (.cons _ _ .nil)) ⟨_, hp3⟩ (.cons _ _ (.cons _ _ .nil)) ?_
        ((with_reducible refine wpAny_truthy_bool ?_))
        refine splitB (fun hd => ?_) (fun hd => ?_)
        · have hd : rows[sps[i].at_].file = number ∧ rows[sps[i].at_].line = line := by simpa using hd
          ((with_reducible refine wpAny_allTrue_And_cons ?_); (with_reducible refine wpAny_isTrue_value ?_ (by with_unfolding_all (intros; rfl))); (with_reducible refine Attribute_any_ ?_ (by with_unfolding_all (intros; rfl))); refine nameL F (by first | rfl | assumption) ?_; refine attrG C F (by assumption) (clsOk127 _) (by first | with_reducible exact at_address _ | with_reducible exact at_file _ | with_reducible exact at_line _ | with_reducible exact at_is_stmt _ | with_reducible exact at_is_end _) (by first | assumption | rfl) (by rfl) ?_; clear F; intro s F; (with_reducible refine wpAny_truthy_bool ?_))
          cases hst : rows[sps[i].at_].stmt with
          | false =>
            ((with_reducible refine ifF ?_))
            exact ⟨G5, _, le4.trans le5, F, rfl, by simp⟩
          | true =>
            ((with_reducible refine ifT ?_); (with_reducible refine wpAny_allTrue_And_cons ?_); (with_reducible refine wpAny_isTrue_Not ?_); (with_reducible refine wpAny_isTrue_value ?_ (by with_unfolding_all (intros; rfl))); refine nameL F (by first | rfl | assumption) ?_; (with_reducible refine wpAny_truthy_bool ?_))
            cases told with
            | true =>
              (refine ifF ?_)
              exact ⟨G5, _, le4.trans le5, F, rfl, by simp⟩
            | false =>
              (refine ifT ?_; (with_reducible refine wpAny_allTrue_And_nil ?_))
              exact ⟨G5, _, le4.trans le5, F, rfl, by simp [hd]⟩
        · have hd : ¬ (rows[sps[i].at_].file = number ∧ rows[sps[i].at_].line = line) := by simpa using hd
          exact ⟨G5, _, le4.trans le5, F, rfl, by simp [hd]⟩
      clear F
      rintro c2 G6 _ s le6 F ⟨rfl, hc2⟩
      replace I := I.mono le6; replace hsl := hsl.mono le6; replace hta := hta.mono le6
      refine splitB (fun hd => ?_) (fun hd => ?_)
      · rw [hd] at hc2
        rw [if_pos (of_decide_eq_true hc2.symm)] at hb
        (refine execsK ?_; intro _ _ _; (with_reducible refine wpAny_Expr ?_ (by with_unfolding_all (intros; rfl)) (by with_unfolding_all (intros; rfl))); (with_reducible refine MethodCall_ ?_ (by with_unfolding_all (intros; rfl))); refine nameL F (by first | rfl | assumption) ?_)
        refine methA (pre := []) F ?_
        ((with_reducible refine callWith_method1 ?_ (by with_unfolding_all (intros; rfl)) (by with_unfolding_all (intros; rfl))); (with_reducible refine wpAny_items_cons ?_ (by with_unfolding_all (intros; rfl))); (with_reducible refine Subscript_ ?_); (with_reducible refine Subscript_ ?_); (with_reducible refine Attribute_any_ ?_ (by with_unfolding_all (intros; rfl))); refine nameL F (by first | rfl | assumption) ?_; refine attrG C F (by assumption) (clsOk106 _) (by first | with_reducible exact at_rows _ | with_reducible exact at_spans _ | with_reducible exact at_files _) (by first | assumption | rfl) (by rfl) ?_; clear F; intro s F; refine nameL F (by first | rfl | assumption) ?_; refine itemLn F (by assumption) (by assumption) (by omega) ?_; (with_reducible refine constI F ?_); clear F; intro t s F; refine itemT (F.f.tup (by assumption)) (by decide) (by decide) (by rfl) ?_; (with_reducible refine wpAny_items_nil ?_))
        have := begs_len rows sps number line i
        have := hvs.length
        refine appendM (pre := []) F (by omega) ?_
        clear F; intro s F
        ((with_reducible refine next_ (by assumption) ?_); refine execsK ?_; intro _ _ _; (with_reducible refine wpAny_Assign_Name ?_ (by with_unfolding_all (intros; rfl))); (with_reducible refine wpAny_Constant_bool ?_); refine storeL F ?_; clear F; intro s F; (with_reducible refine next_ (by assumption) ?_); (with_reducible refine wpAny_execs_nil ?_); (with_reducible refine next_ (by assumption) ?_); (with_reducible refine wpAny_execs_nil ?_); (with_reducible refine lp_n (by assumption) ?_))
        refine ⟨_, _, _, [(l, _)], le3.trans le6, F, vs ++ [.int sps[i].lo ta1], _, rfl, ?_, ms, mn, ml, mf, ?_⟩
        · rw [hb]; exact intsApp hvs (.cons _ _ .nil)
        · rw [hb]; rfl
      · rw [hd] at hc2
        rw [if_neg (of_decide_eq_false hc2.symm)] at hb
        ((with_reducible refine wpAny_execs_nil ?_); (with_reducible refine next_ (by assumption) ?_); (with_reducible refine wpAny_execs_nil ?_); (with_reducible refine lp_n (by assumption) ?_))
        refine ⟨_, _, _, [(l, _)], le3.trans le6, F, vs, n, rfl, ?_, ms, mn, ml, mf, ?_⟩
        · rw [hb]; exact hvs
        · rw [hb]; exact mt
    · clear F
      rintro m₁ cm₁ G₁ mu₁ s le ⟨vs, n, rfl, hvs, ms, mn, ml, mf, mt⟩ F
      ((with_reducible refine fo_ (by assumption) ?_); (with_reducible refine next_ (by assumption) ?_); refine execsK ?_; intro _ _ _; (with_reducible refine wpAny_Return_some ?_); refine nameL F (by first | rfl | assumption) ?_; (with_reducible refine rt_ (by assumption) ?_))
      rw [show (((svs.length : Nat) : Int) - 0).toNat = sps.length by omega] at hvs
      have M := F.f.mfr (l, PySem.W.listOf vs.toArray n) (.head _)
      obtain ⟨F', le'⟩ := F.f.freeze (M.resolve_left (fun h => nomatch h)) (fun h => nomatch h)
      repeat (with_reducible first | refine rt_ (by assumption) ?_ | refine fo_ (by assumption) ?_ | refine lp_r (by assumption) ?_)
      exact ret s _ _ _ [] [] _ ⟨F', F.r⟩ (((le1.trans le2).trans le).trans le') rfl ⟨l, vs, rfl, ⟨_, ext_self .., rfl, _, rfl⟩, hvs⟩
end
end

/-! F8 -/
section
section
variable {w : World} {T : Heap} {A : Around} {G : View} {x : Addr} {names : List PySem.Str} {rvs : List Value} {rows : List Row} {sps : List Sp}
set_option pp.deepTerms false
set_option pp.deepTerms.threshold 3
set_option pp.maxSteps 1500
def secondIn (sps : List Sp) (low high : Int) : Int := match sps.find? (fun p => decide (low < p.lo) && decide (p.lo < high)) with | some p => p.lo | none => low
theorem goTup {elts : List PySem.Expr} {k : Nat} {pos : Pos} {I l : Addr} {i : Nat} {v : Value} {s : Shared} {E : Value → Shared → Prop} {Q : Unit → Shared → Prop} (hit : s.heap.IsListIter I l i) (hv : ∃ a, v = .ref a) (h : Q () s) : wpAny (model PR w) A (letOwnedTupleGo (.Tuple elts k pos) (.ref I) v) Q E s := by
  obtain ⟨a, rfl⟩ := hv
  exact wpAny_letOwnedTupleGo_listiter hit h
theorem second_ok {low high : Int} {t1 t2 : Tok} (C : Cx (KK w) T) (hA : Ok A 3) (H : TabAt G x names rvs rows sps) :
    Calls PR w T A (.ref 103) [.ref x, .int low t1, .int high t2] G [] (fun G' _ v => ∃ t, v = .int (secondIn sps low high) t) := by
  refine Calls.of_def C (binds := [("self", .ref x), ("low", .int low t1), ("high", .int high t2)]) hA (by with_unfolding_all rfl) (by with_unfolding_all rfl) (by with_unfolding_all rfl) ?_ ?_ ?_
  · intro n x hx
    left
    simp only [List.mem_cons, List.not_mem_nil, or_false] at hx
    rcases hx with rfl | rfl | rfl <;> rfl
  · decide
  · clear hA; intro S L s A hA Q E F ret
    have H' := H
    obtain ⟨hrv, ⟨hb1, hb2, hb3, hb4⟩, es, fl, rl, sl, nvs, svs, I, ef, er, es', el, hf, hfn, hr, hsl, hsp⟩ := H
    have l1 := hsp.len
    have l2 := hrv.len
    (refine execsK ?_; intro _ _ _; (with_reducible refine For_ ?_ (by with_unfolding_all (intros; rfl))); intro _ _; (with_reducible refine Attribute_any_ ?_ (by with_unfolding_all (intros; rfl))); refine nameL F (by first | rfl | assumption) ?_; refine attrG C F (by assumption) (clsOk106 _) (by first | with_reducible exact at_rows _ | with_reducible exact at_spans _ | with_reducible exact at_files _) (by first | assumption | rfl) (by rfl) ?_; clear F; intro s F)
    let J : Nat → Nm → Nm → View → Mu → Prop := fun i m cm G' mu => mu = [] ∧ m "low" = some (.int low t1) ∧ m "high" = some (.int high t2) ∧ (sps.take i).find? (fun p => decide (low < p.lo) && decide (p.lo < high)) = none
    refine loopL hA.handled F hsl (fun _ _ _ _ _ _ _ _ q => goName q) J ⟨rfl, rfl, rfl, rfl⟩ ?_ ?_
    · clear F
      rintro i v m₁ cm₁ G₁ mu₁ p s E₁ hv le ⟨rfl, ml, mh, hfind⟩ F
      intro _ _
      obtain ⟨sp, hp, aa, ta1, ta2, ta3, rfl, hta⟩ := hsp.get hv
      replace hta := hta.mono le
      have htk : sps.take (i + 1) = sps.take i ++ [sp] := by rw [List.take_add_one, hp]; rfl
      ((with_reducible refine asgName ?_); refine storeL F ?_; clear F; intro s F; refine execsK ?_; intro _ _ _; refine wpAny_If ?_; (with_reducible refine isTrue_chain ?_ (by with_unfolding_all (intros; rfl))); refine nameL F (by first | rfl | assumption) ?_; refine test_link ?_; (with_reducible refine Subscript_ ?_); refine nameL F (by first | rfl | assumption) ?_; (with_reducible refine constI F ?_); clear F; intro t s F; refine itemT (F.f.tup (by assumption)) (by decide) (by decide) (by rfl) ?_; (with_reducible refine lt_int ?_); (with_reducible refine wpAny_truthy_bool ?_))
      refine splitB (fun hc => ?_) (fun hc => ?_)
      · have hc : low < sp.lo := by simpa using hc
        (refine test_last ?_; refine nameL F (by first | rfl | assumption) ?_; (with_reducible refine lt_int ?_); (with_reducible refine wpAny_truthy_bool ?_))
        refine splitB (fun hd => ?_) (fun hd => ?_)
        · have hd : sp.lo < high := by simpa using hd
          (refine execsK ?_; intro _ _ _; (with_reducible refine wpAny_Return_some ?_); (with_reducible refine Subscript_ ?_); refine nameL F (by first | rfl | assumption) ?_; (with_reducible refine constI F ?_); clear F; intro t s F; refine itemT (F.f.tup (by assumption)) (by decide) (by decide) (by rfl) ?_; (with_reducible refine rt_ (by assumption) ?_); (with_reducible refine rt_ (by assumption) ?_); (with_reducible refine lp_r (by assumption) ?_); (with_reducible refine fo_ (by assumption) ?_); (with_reducible refine rt_ (by assumption) ?_))
          repeat (with_reducible first | refine rt_ (by assumption) ?_ | refine fo_ (by assumption) ?_ | refine lp_r (by assumption) ?_)
          refine ret s _ _ _ [] _ _ F le rfl ⟨ta1, ?_⟩
          unfold secondIn
          have : sps.find? (fun p => decide (low < p.lo) && decide (p.lo < high)) = some sp := by
            rw [← List.take_append_drop (i + 1) sps, List.find?_append, htk, List.find?_append, hfind]
            simp [hc, hd]
          rw [this]
        · have hd : ¬ sp.lo < high := by simpa using hd
          ((with_reducible refine wpAny_execs_nil ?_); (with_reducible refine next_ (by assumption) ?_); (with_reducible refine wpAny_execs_nil ?_); (with_reducible refine lp_n (by assumption) ?_))
          refine ⟨_, _, _, [], Le.refl _, F, rfl, ml, mh, ?_⟩
          rw [htk, List.find?_append, hfind]; simp [hd]
      · have hc : ¬ low < sp.lo := by simpa using hc
        ((with_reducible refine ifF ?_); (with_reducible refine wpAny_execs_nil ?_); (with_reducible refine next_ (by assumption) ?_); (with_reducible refine wpAny_execs_nil ?_); (with_reducible refine lp_n (by assumption) ?_))
        refine ⟨_, _, _, [], Le.refl _, F, rfl, ml, mh, ?_⟩
        rw [htk, List.find?_append, hfind]; simp [hc]
    · clear F
      rintro m₁ cm₁ G₁ mu₁ s le ⟨rfl, ml, mh, hfind⟩ F
      ((with_reducible refine fo_ (by assumption) ?_); (with_reducible refine next_ (by assumption) ?_); refine execsK ?_; intro _ _ _; (with_reducible refine wpAny_Return_some ?_); refine nameL F (by first | rfl | assumption) ?_; (with_reducible refine rt_ (by assumption) ?_))
      repeat (with_reducible first | refine rt_ (by assumption) ?_ | refine fo_ (by assumption) ?_ | refine lp_r (by assumption) ?_)
      refine ret s _ _ _ [] [] _ F le rfl ⟨t1, ?_⟩
      rw [l1, List.take_length] at hfind
      unfold secondIn; rw [hfind]
end
end

/-! F9 -/
section
theorem methList {A : Around} {s : Shared} {E : Value → Shared → Prop} {M : Model} {l : Addr} {vs : List Value} {n : Nat} {name : PySem.Str} {id : String} {pl : Sem Bool} {Q : Value × List Value → Shared → Prop} (ho : s.heap.get? l = some (PySem.W.listOf vs.toArray n)) (slot : Slot "list" name id)
    (hty : typeOf (.builtin id) = pure (.type "method_descriptor")) (h : Q (.builtin id, [.ref l]) s) : wpAny M A (getMethod (.ref l) name pl) Q E s :=
  getMethod_builtin ⟨_, ho, rfl⟩ PySem.F.plainAttrs_list slot hty (fun a e => by cases e; exact ⟨_, ho, rfl⟩) h

def fileNo (names : List PySem.Str) (f : PySem.Str) : Int := match names.findIdx? (· == f) with | some i => (i : Int) + 1 | none => 0
section
variable {w : World} {T : Heap} {A : Around} {G : View} {x : Addr} {names : List PySem.Str} {rvs : List Value} {rows : List Row} {sps : List Sp}
set_option pp.deepTerms false
set_option pp.deepTerms.threshold 3
set_option pp.maxSteps 1500
def strEq (f : PySem.Str) (v : Value) : Bool := match v with | .str a _ => a == f | _ => false
theorem any_strs {f : PySem.Str} : ∀ {vs : List Value} {names : List PySem.Str}, All2 StrIs vs names → vs.any (strEq f) = names.any (· == f)
  | _, _, .nil => rfl
  | _, _, .cons ⟨t, e⟩ r => by subst e; simp [strEq, any_strs r]
theorem file_number_ok {f : PySem.Str} {t1 : Tok} (C : Cx (KK w) T) (hA : Ok A 3) (H : TabAt G x names rvs rows sps) :
    Calls PR w T A (.ref 35) [.ref x, .str f t1] G [] (fun G' _ v => ∃ t, v = .int (fileNo names f) t) := by
  refine Calls.of_def C (binds := [("self", .ref x), ("file", .str f t1)]) hA (by with_unfolding_all rfl) (by with_unfolding_all rfl) (by with_unfolding_all rfl) ?_ ?_ ?_
  · intro n x hx
    left
    simp only [List.mem_cons, List.not_mem_nil, or_false] at hx
    rcases hx with rfl | rfl <;> rfl
  · decide
  · clear hA; intro S L s A hA Q E F ret
    obtain ⟨hrv, ⟨hb1, hb2, hb3, hb4⟩, es, fl, rl, sl, nvs, svs, I, ef, er, es', el, hf, hfn, hr, hsl, hsp⟩ := H
    have l1 := hfn.len
    have he : ∀ (s : Shared) (A : Around) y, y ∈ nvs.toArray → EqAt A s y (.str f t1) (strEq f y) := fun s A y hy => by
      obtain ⟨a, ha, t, rfl⟩ := hfn.mem (by simpa using hy)
      exact EqAt.str_str a t f t1
    (refine execsK ?_; intro _ _ _; (with_reducible refine wpAny_Return_some ?_); (with_reducible refine wpAny_IfExp ?_); (with_reducible refine wpAny_isTrue_Compare1 ?_ (by with_unfolding_all (intros; rfl))); refine nameL F (by first | rfl | assumption) ?_; (with_reducible refine Attribute_any_ ?_ (by with_unfolding_all (intros; rfl))); refine nameL F (by first | rfl | assumption) ?_; refine attrG C F (by assumption) (clsOk106 _) (by first | with_reducible exact at_rows _ | with_reducible exact at_spans _ | with_reducible exact at_files _) (by first | assumption | rfl) (by rfl) ?_; clear F; intro s F)
    refine in_listAt (strEq f) (F.f.lstG hf.at) (he _ _) ?_
    rw [show nvs.toArray.any (strEq f) = names.any (· == f) by rw [← any_strs hfn]; simp]
    ((with_reducible refine wpAny_truthy_bool ?_))
    cases hany : names.any (· == f) with
    | true =>
      ((with_reducible refine ifT ?_); (with_reducible refine wpAny_BinOp ?_); (with_reducible refine MethodCall_ ?_ (by with_unfolding_all (intros; rfl))); (with_reducible refine Attribute_any_ ?_ (by with_unfolding_all (intros; rfl))); refine nameL F (by first | rfl | assumption) ?_; refine attrG C F (by assumption) (clsOk106 _) (by first | with_reducible exact at_rows _ | with_reducible exact at_spans _ | with_reducible exact at_files _) (by first | assumption | rfl) (by rfl) ?_; clear F; intro s F)
      obtain ⟨n, hfx⟩ := hf
      refine methList (F.f.view _ _ hfx) PySem.F.slot_list_index PySem.F.type_list_index ?_
      refine P.index_list ?_
      show wpAny _ _ (eval (PySem.Expr.Name _ _) _) _ _ _
      (refine nameL F (by first | rfl | assumption) ?_)
      obtain ⟨i, hi⟩ : ∃ i, names.findIdx? (· == f) = some i := by
        cases q : names.findIdx? (· == f) with
        | some i => exact ⟨i, rfl⟩
        | none =>
          rw [List.findIdx?_eq_none_iff] at q
          obtain ⟨y, hy, hz⟩ := List.any_eq_true.mp hany
          rw [q y hy] at hz; cases hz
      obtain ⟨hi1, hi2, hi3⟩ := List.findIdx?_eq_some_iff_getElem.mp hi
      have item : ∀ j (hj : j < nvs.toArray.size), strEq f nvs.toArray[j] = (names[j]'(by simpa [← l1] using hj) == f) := fun j hj => by
        obtain ⟨a, ha, t, e⟩ := hfn.get (i := j) (a := nvs[j]'(by simpa using hj)) (by simp)
        have : names[j]'(by simpa [← l1] using hj) = a := by
          have := List.getElem?_eq_getElem (l := names) (i := j) (by simpa [← l1] using hj)
          rw [ha] at this; exact (Option.some.inj this).symm
        simp [this, e, strEq]
      refine ⟨nvs.toArray, n, strEq f, i, by simp; omega, F.f.view _ _ hfx, fun y hy => ?_, by omega, ?_, fun j hj hji => ?_, ?_⟩
      · obtain ⟨a, ha, t, rfl⟩ := hfn.mem (by simpa using hy)
        exact eqGives_str a f t t1
      · rw [item]; exact hi2
      · rw [item]; simpa using hi3 j hji
      replace F := F.tok (s.toks + 1)
      ((with_reducible refine constI F ?_); clear F; intro t s F; (with_reducible refine addI F ?_); clear F; intro t s F; (with_reducible refine rt_ (by assumption) ?_))
      repeat (with_reducible first | refine rt_ (by assumption) ?_ | refine fo_ (by assumption) ?_ | refine lp_r (by assumption) ?_)
      refine ret _ _ _ _ [] [] _ F (Le.refl _) rfl ⟨t, ?_⟩
      unfold fileNo; rw [hi]
    | false =>
      ((with_reducible refine ifF ?_); (with_reducible refine constI F ?_); clear F; intro t s F; (with_reducible refine rt_ (by assumption) ?_))
      repeat (with_reducible first | refine rt_ (by assumption) ?_ | refine fo_ (by assumption) ?_ | refine lp_r (by assumption) ?_)
      refine ret s _ _ _ [] [] _ F (Le.refl _) rfl ⟨t, ?_⟩
      have : names.findIdx? (· == f) = none := by
        rw [List.findIdx?_eq_none_iff]
        intro y hy
        rw [List.any_eq_false] at hany
        simpa using hany y hy
      unfold fileNo; rw [this]
end
end

/-! F10 -/
section
def fileName (names : List PySem.Str) (f : Int) : PySem.Str := if 0 < f ∧ f ≤ names.length then names.getD (f - 1).toNat "" else ""
section
variable {w : World} {T : Heap} {A : Around} {G : View} {x : Addr} {names : List PySem.Str} {rvs : List Value} {rows : List Row} {sps : List Sp}
set_option pp.deepTerms false
set_option pp.deepTerms.threshold 3
set_option pp.maxSteps 1500
theorem file_name_ok {rv : Value} {r : Row} (C : Cx (KK w) T) (hA : Ok A 3) (H : TabAt G x names rvs rows sps) (hr : RowAt G rv r) :
    Calls PR w T A (.ref 42) [.ref x, rv] G [] (fun G' _ v => StrIs v (fileName names r.file)) := by
  obtain ⟨xa, esa, u1, u2, u3, rfl, Ia, ea1, ea2, ea3, ea4, ea5⟩ := hr
  refine Calls.of_def C (binds := [("self", .ref x), ("row", .ref xa)]) hA (by with_unfolding_all rfl) (by with_unfolding_all rfl) (by with_unfolding_all rfl) ?_ ?_ ?_
  · intro n x hx
    left
    simp only [List.mem_cons, List.not_mem_nil, or_false] at hx
    rcases hx with rfl | rfl <;> rfl
  · decide
  · clear hA; intro S L s A hA Q E F ret
    obtain ⟨hrv, ⟨hb1, hb2, hb3, hb4⟩, es, fl, rl, sl, nvs, svs, I, ef, er, es', el, hf, hfn, hr, hsl, hsp⟩ := H
    have l1 := hfn.len
    (refine execsK ?_; intro _ _ _; (with_reducible refine wpAny_Return_some ?_); (with_reducible refine wpAny_IfExp ?_); (with_reducible refine isTrue_chain ?_ (by with_unfolding_all (intros; rfl))); (with_reducible refine constI F ?_); clear F; intro t s F; refine test_link ?_; (with_reducible refine Attribute_any_ ?_ (by with_unfolding_all (intros; rfl))); refine nameL F (by first | rfl | assumption) ?_; refine attrG C F (by assumption) (clsOk127 _) (by first | with_reducible exact at_address _ | with_reducible exact at_file _ | with_reducible exact at_line _ | with_reducible exact at_is_stmt _ | with_reducible exact at_is_end _) (by first | assumption | rfl) (by rfl) ?_; clear F; intro s F; (with_reducible refine lt_int ?_); (with_reducible refine wpAny_truthy_bool ?_))
    refine splitB (fun hc => ?_) (fun hc => ?_)
    · have hc : 0 < r.file := by simpa using hc
      (refine test_last ?_; (with_reducible refine Call_ ?_ (by with_unfolding_all (intros; rfl))); refine nameB C F (by rfl) (by first | with_reducible exact PySem.boot_len | with_reducible exact PyProof.Rows.boot_range | with_reducible exact PyProof.Rows.boot_sorted | with_reducible exact PyProof.Rows.boot_list | with_reducible exact PyProof.Rows.boot_enumerate) (by decide) ?_; (with_reducible refine PyProof.Rows.callWith_builtin1 ?_ (by with_unfolding_all (intros; rfl)) (by with_unfolding_all (intros; rfl))); (with_reducible refine wpAny_items_cons ?_ (by with_unfolding_all (intros; rfl))); (with_reducible refine Attribute_any_ ?_ (by with_unfolding_all (intros; rfl))); refine nameL F (by first | rfl | assumption) ?_; refine attrG C F (by assumption) (clsOk106 _) (by first | with_reducible exact at_rows _ | with_reducible exact at_spans _ | with_reducible exact at_files _) (by first | assumption | rfl) (by rfl) ?_; clear F; intro s F; (with_reducible refine wpAny_items_nil ?_))
      refine lenL F (F.f.lstG hf.at) (by omega) ?_
      clear F; intro t s F
      ((with_reducible refine PyProof.Rows.le_int ?_); (with_reducible refine wpAny_truthy_bool ?_))
      refine splitB (fun hd => ?_) (fun hd => ?_)
      · have hd : r.file ≤ nvs.length := by simpa using hd
        ((with_reducible refine Subscript_ ?_); (with_reducible refine Attribute_any_ ?_ (by with_unfolding_all (intros; rfl))); refine nameL F (by first | rfl | assumption) ?_; refine attrG C F (by assumption) (clsOk106 _) (by first | with_reducible exact at_rows _ | with_reducible exact at_spans _ | with_reducible exact at_files _) (by first | assumption | rfl) (by rfl) ?_; clear F; intro s F; (with_reducible refine wpAny_BinOp ?_); (with_reducible refine Attribute_any_ ?_ (by with_unfolding_all (intros; rfl))); refine nameL F (by first | rfl | assumption) ?_; refine attrG C F (by assumption) (clsOk127 _) (by first | with_reducible exact at_address _ | with_reducible exact at_file _ | with_reducible exact at_line _ | with_reducible exact at_is_stmt _ | with_reducible exact at_is_end _) (by first | assumption | rfl) (by rfl) ?_; clear F; intro s F; (with_reducible refine constI F ?_); clear F; intro t s F; (with_reducible refine subI F ?_); clear F; intro t s F)
        obtain ⟨nm, hnm, t2, ev⟩ := hfn.get (List.getElem?_eq_getElem (l := nvs) (i := (r.file - 1).toNat) (by omega))
        refine itemL (F.f.lstG hf.at) (by omega) (by omega) (List.getElem?_eq_getElem (by omega)) ?_
        repeat (with_reducible first | refine rt_ (by assumption) ?_ | refine fo_ (by assumption) ?_ | refine lp_r (by assumption) ?_)
        refine ret _ _ _ _ [] [] _ F (Le.refl _) rfl ⟨t2, ?_⟩
        rw [ev]; unfold fileName
        rw [if_pos ⟨hc, by omega⟩, List.getD_eq_getElem?_getD, hnm]; rfl
      · have hd : ¬ r.file ≤ nvs.length := by simpa using hd
        ((with_reducible refine constS F ?_); clear F; intro t s F; (with_reducible refine rt_ (by assumption) ?_))
        repeat (with_reducible first | refine rt_ (by assumption) ?_ | refine fo_ (by assumption) ?_ | refine lp_r (by assumption) ?_)
        refine ret _ _ _ _ [] [] _ F (Le.refl _) rfl ⟨t, ?_⟩
        unfold fileName
        rw [if_neg (by omega)]
    · have hc : ¬ 0 < r.file := by simpa using hc
      ((with_reducible refine ifF ?_); (with_reducible refine constS F ?_); clear F; intro t s F; (with_reducible refine rt_ (by assumption) ?_))
      repeat (with_reducible first | refine rt_ (by assumption) ?_ | refine fo_ (by assumption) ?_ | refine lp_r (by assumption) ?_)
      refine ret _ _ _ _ [] [] _ F (Le.refl _) rfl ⟨t, ?_⟩
      unfold fileName
      rw [if_neg (by omega)]
end
end

/-! F11 -/
section
theorem sys_lt {w : World} {T : Heap} (C : Cx (KK w) T) : sysModules < T.objs.size := by
  have h := C.X 106 _ (by rfl)
  have := Heap.lt_size h
  exact Nat.lt_of_le_of_lt (by decide) this
theorem mem_stored {kvs : List (Int × Value)} {k n : Int} {v : Value} : n ∈ (stored kvs k v).map (·.1) ↔ n ∈ kvs.map (·.1) ∨ n = k := by
  unfold stored
  split
  · rename_i h
    have e : (kvs.map fun kv => if kv.1 = k then (kv.1, v) else kv).map (·.1) = kvs.map (·.1) := by
      rw [List.map_map]
      apply List.map_congr_left
      intro a _
      show (if a.1 = k then (a.1, v) else a).1 = a.1
      split <;> rfl
    rw [e]
    constructor
    · exact .inl
    · rintro (h1 | rfl)
      · exact h1
      · obtain ⟨a, ha, hb⟩ := List.any_eq_true.mp h
        exact List.mem_map.mpr ⟨a, ha, by simpa using hb⟩
  · simp
theorem len_stored {kvs : List (Int × Value)} {k : Int} {v : Value} : (stored kvs k v).length ≤ kvs.length + 1 := by
  unfold stored; split <;> simp
/-- a line of a file at which statements begin -/
def Told (rows : List Row) (sps : List Sp) (number n : Int) : Prop := ∃ p ∈ sps, ∃ r, rows[p.at_]? = some r ∧ r.stmt = true ∧ r.file = number ∧ r.line = n
/-- ascending, each once -/
def AscSet (xs : List Int) (P : Int → Prop) : Prop := xs.Pairwise (· < ·) ∧ ∀ n, n ∈ xs ↔ P n
theorem asc_of {ys xs : List Int} (hp : ys.Perm xs) (hs : ys.Pairwise (· ≤ ·)) (hn : xs.Nodup) : ys.Pairwise (· < ·) := by
  have hn' : ys.Nodup := hp.nodup_iff.mpr hn
  rw [List.Nodup] at hn'
  exact (hs.and hn').imp fun ⟨a, b⟩ => by omega
section
variable {w : World} {T : Heap} {A : Around} {G : View} {x : Addr} {names : List PySem.Str} {rvs : List Value} {rows : List Row} {sps : List Sp}
set_option pp.deepTerms false
set_option pp.deepTerms.threshold 3
set_option pp.maxSteps 1500
theorem lines_ok {f : PySem.Str} {t1 : Tok} (C : Cx (KK w) T) (hA : Ok A 5) (H : TabAt G x names rvs rows sps) :
    Calls PR w T A (.ref 84) [.ref x, .str f t1] G [] (fun G' _ v => ∃ xs, IntsIs G' v xs ∧ AscSet xs (Told rows sps (fileNo names f)) ∧ xs.length ≤ 100) := by
  refine Calls.of_def C (binds := [("self", .ref x), ("file", .str f t1)]) hA (by with_unfolding_all rfl) (by with_unfolding_all rfl) (by with_unfolding_all rfl) ?_ ?_ ?_
  · intro n x hx
    left
    simp only [List.mem_cons, List.not_mem_nil, or_false] at hx
    rcases hx with rfl | rfl <;> rfl
  · decide
  · clear hA; intro S L s A hA Q E F ret
    have H' := H
    obtain ⟨hrv, ⟨hb1, hb2, hb3, hb4⟩, es, fl, rl, sl, nvs, svs, I, ef, er, es', el, hf, hfn, hr, hsl, hsp⟩ := H
    have l1 := hsp.len
    have l2 := hrv.len
    (refine execsK ?_; intro _ _ _; (with_reducible refine wpAny_Assign_Name ?_ (by with_unfolding_all (intros; rfl))); (with_reducible refine MethodCall_ ?_ (by with_unfolding_all (intros; rfl))); refine nameL F (by first | rfl | assumption) ?_; refine methG C F (by assumption) (clsOk106 _) (by first | with_reducible exact me_like _ | with_reducible exact me_place _ | with_reducible exact me_number _ | with_reducible exact me_name _ | with_reducible exact me_row _ | with_reducible exact me_span _ | with_reducible exact me_begin _ | with_reducible exact me_lines _ | with_reducible exact me_from _ | with_reducible exact me_places _ | with_reducible exact me_second _) (by first | exact noName (by assumption) _ (by rfl) | rfl) ?_; refine callWith_K C.X (by rfl) ?_; (with_reducible refine wpAny_items_cons ?_ (by with_unfolding_all (intros; rfl))); refine nameL F (by first | rfl | assumption) ?_; (with_reducible refine wpAny_items_nil ?_); refine inAnd C F ?_)
    refine Fs.calls0 (file_number_ok C (hA.mono (by decide)) H') F ?_
    clear F; rintro s G1 _ le1 F ⟨t2, rfl⟩
    replace I := I.mono le1; replace hsl := hsl.mono le1; replace hr := hr.mono le1; replace H' := H'.mono le1
    replace hsp := hsp.mono (SpAt.mono le1); replace hrv := hrv.mono (RowAt.mono le1)
    (refine storeL F ?_; clear F; intro s F; (with_reducible refine next_ (by assumption) ?_); refine execsK ?_; intro _ _ _; (with_reducible refine wpAny_Assign_Name ?_ (by with_unfolding_all (intros; rfl))))
    refine dictE (prog := PR) (w := w) (sys_lt C) F ?_
    clear F; intro d s o hds ho F
    (refine storeL F ?_; clear F; intro s F; (with_reducible refine next_ (by assumption) ?_); refine execsK ?_; intro _ _ _; (with_reducible refine For_ ?_ (by with_unfolding_all (intros; rfl))); intro _ _; (with_reducible refine Attribute_any_ ?_ (by with_unfolding_all (intros; rfl))); refine nameL F (by first | rfl | assumption) ?_; refine attrG C F (by assumption) (clsOk106 _) (by first | with_reducible exact at_rows _ | with_reducible exact at_spans _ | with_reducible exact at_files _) (by first | assumption | rfl) (by rfl) ?_; clear F; intro s F)
    generalize hno : fileNo names f = no at *
    let J : Nat → Nm → Nm → View → Mu → Prop := fun i m cm G' mu => E2 fun o kvs => A7 (mu = [(d, o)]) (IsD PR w o kvs) (kvs.length ≤ i) ((∀ n, n ∈ kvs.map (·.1) ↔ Told rows (sps.take i) no n)) (m "self" = some (.ref x)) (m "number" = some (.int no t2)) (m "found" = some (.ref d))
    refine loopL hA.handled F hsl (fun i I v s Q E hit hv q => goTup hit (by obtain ⟨sp, hp, aa, ta1, ta2, ta3, rfl, hta⟩ := hsp.get hv; exact ⟨_, rfl⟩) q) J ⟨o, [], rfl, ho, Nat.le_refl _, fun n => ⟨(fun h => by simp at h), (fun ⟨p, hp, _⟩ => by simp at hp)⟩, rfl, rfl, rfl⟩ ?_ ?_
    · clear F ho
      rintro i v m₁ cm₁ G₁ mu₁ p s E₁ hv le ⟨o, kvs, rfl, ho, hz, hk, ms, mn, mf⟩ F
      intro _ _
      obtain ⟨sp, hp, aa, ta1, ta2, ta3, rfl, hta⟩ := hsp.get hv
      replace hta := hta.mono le; replace I := I.mono le; replace hr := hr.mono le; replace hrv := hrv.mono (RowAt.mono le)
      have hlt : i < sps.length := (List.getElem?_eq_some_iff.mp hp).1
      have hmem : sp ∈ sps := List.mem_of_getElem? hp
      have hat := hb4 _ hmem
      obtain ⟨rv, hrv', xa, esa, u1, u2, u3, rfl, Ia, ea1, ea2, ea3, ea4, ea5⟩ := hrv.get' (List.getElem?_eq_getElem hat)
      have htk : sps.take (i + 1) = sps.take i ++ [sp] := by rw [List.take_add_one, hp]; rfl
      have told : ∀ n, Told rows (sps.take (i + 1)) no n ↔ Told rows (sps.take i) no n ∨ (rows[sp.at_].stmt = true ∧ rows[sp.at_].file = no ∧ rows[sp.at_].line = n) := fun n => by
        rw [htk]
        constructor
        · rintro ⟨q, hq, r, hr, h1⟩
          rcases List.mem_append.mp hq with hq | hq
          · exact .inl ⟨q, hq, r, hr, h1⟩
          · rw [List.mem_singleton] at hq; subst hq
            rw [List.getElem?_eq_getElem hat] at hr; cases hr
            exact .inr h1
        · rintro (⟨q, hq, h1⟩ | h1)
          · exact ⟨q, List.mem_append_left _ hq, h1⟩
          · exact ⟨sp, List.mem_append_right _ (.head _), _, List.getElem?_eq_getElem hat, h1⟩
      refine unpackT hA.handled F hta (by rfl) (by rfl) ?_
      clear F; intro s F
      (refine inOrder_cons ?_; (with_reducible refine asgName ?_); refine storeL F ?_; clear F; intro s F; refine inOrder_cons ?_; (with_reducible refine asgName ?_); refine storeL F ?_; clear F; intro s F; refine inOrder_cons ?_; (with_reducible refine asgName ?_); refine storeL F ?_; clear F; intro s F; refine inOrder_nil ?_; refine execsK ?_; intro _ _ _)
      refine ifS F (fun G' mu' c => G' = G₁ ∧ mu' = [(d, o)] ++ [p] ∧ c = (rows[sp.at_].stmt && decide (rows[sp.at_].file = no))) ?_ ?_
      · intro E
        ((with_reducible refine wpAny_isTrue_BoolOp ?_); (with_reducible refine wpAny_allTrue_And_cons ?_); (with_reducible refine wpAny_isTrue_value ?_ (by with_unfolding_all (intros; rfl))); (with_reducible refine Attribute_any_ ?_ (by with_unfolding_all (intros; rfl))); (with_reducible refine Subscript_ ?_); (with_reducible refine Attribute_any_ ?_ (by with_unfolding_all (intros; rfl))); refine nameL F (by first | rfl | assumption) ?_; refine attrG C F (by assumption) (clsOk106 _) (by first | with_reducible exact at_rows _ | with_reducible exact at_spans _ | with_reducible exact at_files _) (by first | assumption | rfl) (by rfl) ?_; clear F; intro s F; refine nameL F (by first | rfl | assumption) ?_; refine itemLn F (by assumption) (by assumption) (by omega) ?_; refine attrG C F (by assumption) (clsOk127 _) (by first | with_reducible exact at_address _ | with_reducible exact at_file _ | with_reducible exact at_line _ | with_reducible exact at_is_stmt _ | with_reducible exact at_is_end _) (by first | assumption | rfl) (by rfl) ?_; clear F; intro s F; (with_reducible refine wpAny_truthy_bool ?_))
        cases hst : rows[sp.at_].stmt with
        | false =>
          ((with_reducible refine ifF ?_))
          exact ⟨G₁, _, Le.refl _, F, rfl, rfl, by simp⟩
        | true =>
          ((with_reducible refine ifT ?_); (with_reducible refine wpAny_allTrue_And_cons ?_); (with_reducible refine wpAny_isTrue_Compare1 ?_ (by with_unfolding_all (intros; rfl))); (with_reducible refine Attribute_any_ ?_ (by with_unfolding_all (intros; rfl))); (with_reducible refine Subscript_ ?_); (with_reducible refine Attribute_any_ ?_ (by with_unfolding_all (intros; rfl))); refine nameL F (by first | rfl | assumption) ?_; refine attrG C F (by assumption) (clsOk106 _) (by first | with_reducible exact at_rows _ | with_reducible exact at_spans _ | with_reducible exact at_files _) (by first | assumption | rfl) (by rfl) ?_; clear F; intro s F; refine nameL F (by first | rfl | assumption) ?_; refine itemLn F (by assumption) (by assumption) (by omega) ?_; refine attrG C F (by assumption) (clsOk127 _) (by first | with_reducible exact at_address _ | with_reducible exact at_file _ | with_reducible exact at_line _ | with_reducible exact at_is_stmt _ | with_reducible exact at_is_end _) (by first | assumption | rfl) (by rfl) ?_; clear F; intro s F; refine nameL F (by first | rfl | assumption) ?_; (with_reducible refine eq_int ?_); (with_reducible refine wpAny_truthy_bool ?_))
          refine splitB (fun hc => ?_) (fun hc => ?_)
          · ((with_reducible refine wpAny_allTrue_And_nil ?_))
            exact ⟨G₁, _, Le.refl _, F, rfl, rfl, by simpa using hc⟩
          · exact ⟨G₁, _, Le.refl _, F, rfl, rfl, by simpa using hc⟩
      clear F
      rintro c _ _ s le2 F ⟨rfl, rfl, hc⟩
      refine splitB (fun hd => ?_) (fun hd => ?_)
      · rw [hd] at hc
        obtain ⟨h1, h2⟩ := Bool.and_eq_true_iff.mp hc.symm
        have h2 := of_decide_eq_true h2
        (refine execsK ?_; intro _ _ _; (with_reducible refine wpAny_Assign_Subscript ?_ (by with_unfolding_all (intros; rfl))); (with_reducible refine wpAny_Constant_bool ?_); refine nameL F (by first | rfl | assumption) ?_; (with_reducible refine Attribute_any_ ?_ (by with_unfolding_all (intros; rfl))); (with_reducible refine Subscript_ ?_); (with_reducible refine Attribute_any_ ?_ (by with_unfolding_all (intros; rfl))); refine nameL F (by first | rfl | assumption) ?_; refine attrG C F (by assumption) (clsOk106 _) (by first | with_reducible exact at_rows _ | with_reducible exact at_spans _ | with_reducible exact at_files _) (by first | assumption | rfl) (by rfl) ?_; clear F; intro s F; refine nameL F (by first | rfl | assumption) ?_; refine itemLn F (by assumption) (by assumption) (by omega) ?_; refine attrG C F (by assumption) (clsOk127 _) (by first | with_reducible exact at_address _ | with_reducible exact at_file _ | with_reducible exact at_line _ | with_reducible exact at_is_stmt _ | with_reducible exact at_is_end _) (by first | assumption | rfl) (by rfl) ?_; clear F; intro s F)
        refine setD (prog := PR) (w := w) (pre := []) F ho (by omega) ?_
        clear F ho; intro s o ho F
        ((with_reducible refine next_ (by assumption) ?_); (with_reducible refine wpAny_execs_nil ?_); (with_reducible refine next_ (by assumption) ?_); (with_reducible refine wpAny_execs_nil ?_); (with_reducible refine lp_n (by assumption) ?_))
        refine ⟨_, _, _, [(d, o)], Le.refl _, F, o, _, rfl, ho, ?_, fun n => ?_, ms, mn, mf⟩
        · have := len_stored (kvs := kvs) (k := rows[sp.at_].line) (v := .bool true); omega
        · rw [mem_stored, told, hk]
          constructor
          · rintro (h | h)
            · exact .inl h
            · exact .inr ⟨h1, h2, h.symm⟩
          · rintro (h | h)
            · exact .inl h
            · exact .inr h.2.2.symm
      · rw [hd] at hc
        ((with_reducible refine wpAny_execs_nil ?_); (with_reducible refine next_ (by assumption) ?_); (with_reducible refine wpAny_execs_nil ?_); (with_reducible refine lp_n (by assumption) ?_))
        refine ⟨_, _, _, [(d, o)], Le.refl _, F, o, _, rfl, ho, by omega, fun n => ?_, ms, mn, mf⟩
        rw [told, hk]
        constructor
        · exact .inl
        · rintro (h | h)
          · exact h
          · rw [h.1, h.2.1] at hc; simp at hc
    · clear F ho
      rintro m₁ cm₁ G₁ mu₁ s le ⟨o, kvs, rfl, ho, hz, hk, ms, mn, mf⟩ F
      have M := F.f.mfr (d, o) (.head _)
      obtain ⟨F', le'⟩ := F.f.freeze (M.resolve_left (fun h => nomatch h)) (fun h => nomatch h)
      replace F := (⟨F', F.r⟩ : Fs _ _ _ _ _ _ _)
      have D : DAt PR w (ext G₁ d o) d kvs := ⟨hds, o, ext_self .., ho⟩
      clear F'
      ((with_reducible refine fo_ (by assumption) ?_); (with_reducible refine next_ (by assumption) ?_); refine execsK ?_; intro _ _ _; (with_reducible refine wpAny_Return_some ?_); (with_reducible refine Call_ ?_ (by with_unfolding_all (intros; rfl))); refine nameB C F (by rfl) (by first | with_reducible exact PySem.boot_len | with_reducible exact PyProof.Rows.boot_range | with_reducible exact PyProof.Rows.boot_sorted | with_reducible exact PyProof.Rows.boot_list | with_reducible exact PyProof.Rows.boot_enumerate) (by decide) ?_; (with_reducible refine PyProof.Rows.callWith_builtin1 ?_ (by with_unfolding_all (intros; rfl)) (by with_unfolding_all (intros; rfl))); (with_reducible refine wpAny_items_cons ?_ (by with_unfolding_all (intros; rfl))); refine nameL F (by first | rfl | assumption) ?_; (with_reducible refine wpAny_items_nil ?_))
      refine sortedDict hA.handled F D (by omega) ?_
      clear F; intro a s G2 us ys le2 hl hi hpm hso F
      repeat (with_reducible first | refine rt_ (by assumption) ?_ | refine fo_ (by assumption) ?_ | refine lp_r (by assumption) ?_)
      refine ret s _ _ _ [] [] _ F (((le1.trans le).trans le').trans le2) rfl ⟨ys, ⟨a, us, rfl, hl, hi⟩, ⟨asc_of hpm hso ?_, fun n => ?_⟩, by have := hpm.length_eq; rw [List.length_map] at this; omega⟩
      · obtain ⟨_, _, _, _, _, _, h⟩ := ho
        exact h
      · rw [hpm.mem_iff, hk, l1, List.take_length]
end
end

/-! F12 -/
section
section
variable {w : World} {T : Heap} {A : Around} {G : View} {x : Addr} {names : List PySem.Str} {rvs : List Value} {rows : List Row} {sps : List Sp}
set_option pp.deepTerms false
set_option pp.deepTerms.threshold 3
set_option pp.maxSteps 1500
/-- the least line of a file from one on, -1 for none -/
def LineFrom (P : Int → Prop) (line v : Int) : Prop := (v = -1 ∧ ∀ n, P n → n < line) ∨ (P v ∧ line ≤ v ∧ ∀ n, P n → line ≤ n → v ≤ n)
theorem lineFrom_nil {P : Int → Prop} {xs : List Int} {line : Int} (h : AscSet xs P) (e : xs.filter (fun n => decide (line ≤ n)) = []) : LineFrom P line (-1) := .inl ⟨rfl, fun n hn => by
  have := List.filter_eq_nil_iff.mp e n ((h.2 n).mpr hn)
  simp at this; exact this⟩
theorem lineFrom_cons {P : Int → Prop} {xs ys : List Int} {line n : Int} (h : AscSet xs P) (e : xs.filter (fun n => decide (line ≤ n)) = n :: ys) : LineFrom P line n := .inr (by
  have hm : n ∈ xs.filter (fun n => decide (line ≤ n)) := by rw [e]; exact .head _
  obtain ⟨h1, h2⟩ := List.mem_filter.mp hm
  refine ⟨(h.2 n).mp h1, by simpa using h2, fun k hk hl => ?_⟩
  have hm2 : k ∈ xs.filter (fun n => decide (line ≤ n)) := List.mem_filter.mpr ⟨(h.2 k).mpr hk, by simpa using hl⟩
  have hp := h.1.sublist (List.filter_sublist (p := fun n => decide (line ≤ n)))
  rw [e] at hm2 hp
  rcases List.mem_cons.mp hm2 with rfl | hm2
  · exact Int.le_refl _
  · exact Int.le_of_lt ((List.pairwise_cons.mp hp).1 k hm2))
theorem line_from_ok {f : PySem.Str} {line : Int} {t1 t2 : Tok} (C : Cx (KK w) T) (hA : Ok A 7) (H : TabAt G x names rvs rows sps) :
    Calls PR w T A (.ref 89) [.ref x, .str f t1, .int line t2] G [] (fun G' _ v => ∃ n t, v = .int n t ∧ LineFrom (Told rows sps (fileNo names f)) line n) := by
  refine Calls.of_def C (binds := [("self", .ref x), ("file", .str f t1), ("line", .int line t2)]) hA (by with_unfolding_all rfl) (by with_unfolding_all rfl) (by with_unfolding_all rfl) ?_ ?_ ?_
  · intro n x hx
    simp only [List.mem_cons, List.not_mem_nil, or_false] at hx
    rcases hx with rfl | rfl | rfl
    · left; rfl
    · left; rfl
    · right; exact ⟨rfl, rfl⟩
  · decide
  · clear hA; intro S L s A hA Q E F ret
    have H' := H
    obtain ⟨hrv, ⟨hb1, hb2, hb3, hb4⟩, es, fl, rl, sl, nvs, svs, I, ef, er, es', el, hf, hfn, hr, hsl, hsp⟩ := H
    have l1 := hsp.len
    have l2 := hrv.len
    (refine execsK ?_; intro _ _ _)
    refine compA (cl := [("line", L + 1)]) (by rfl) (by rfl) (by rfl) (by decide) ?_
    ((with_reducible refine MethodCall_ ?_ (by with_unfolding_all (intros; rfl))); refine nameL F (by first | rfl | assumption) ?_; refine methG C F (by assumption) (clsOk106 _) (by first | with_reducible exact me_like _ | with_reducible exact me_place _ | with_reducible exact me_number _ | with_reducible exact me_name _ | with_reducible exact me_row _ | with_reducible exact me_span _ | with_reducible exact me_begin _ | with_reducible exact me_lines _ | with_reducible exact me_from _ | with_reducible exact me_places _ | with_reducible exact me_second _) (by first | exact noName (by assumption) _ (by rfl) | rfl) ?_; refine callWith_K C.X (by rfl) ?_; (with_reducible refine wpAny_items_cons ?_ (by with_unfolding_all (intros; rfl))); refine nameL F (by first | rfl | assumption) ?_; (with_reducible refine wpAny_items_nil ?_); refine inAnd C F ?_)
    refine Fs.calls0 (lines_ok C (hA.mono (by decide)) H') F ?_
    clear F; rintro s G1 _ le1 F ⟨xs, ⟨a, us, rfl, hus, hints⟩, ⟨hasc, hset⟩, hlen⟩
    have lu := hints.length
    let J : Nat → Nm → View → List Value → Prop := fun i m G' ys => IntsAre ys ((xs.take i).filter fun n => decide (line ≤ n))
    refine compLa hA.handled F hus (by omega) (fun _ _ _ _ _ _ _ _ q => goName q) (by rfl) (by decide) (fun n c h => by rw [List.mem_singleton.mp h]; exact (List.Mem.head [] : _ ∈ [(("line" : PySem.Str), L + 1)])) (by simp) J .nil ?_ ?_
    · clear F
      intro i v C' b' m₁ G₁ mu₁ ys s E₁ hv le J₁ hT F
      ((with_reducible refine asgName ?_); refine storeL F ?_; clear F; intro s F)
      refine wpAny_tests_one ?_
      obtain ⟨n, t3, rfl, hn⟩ := hints.at i v hv
      have htk : xs.take (i + 1) = xs.take i ++ [n] := by rw [List.take_add_one, hn]; rfl
      ((with_reducible refine wpAny_isTrue_Compare1 ?_ (by with_unfolding_all (intros; rfl))); refine nameL F (by first | rfl | assumption) ?_; refine nameC F (by first | rfl | assumption) ?_; (with_reducible refine PyProof.Rows.ge_int ?_); (with_reducible refine wpAny_truthy_bool ?_))
      refine splitB (fun hc => ?_) (fun hc => ?_)
      · (refine nameL F (by first | rfl | assumption) ?_)
        refine ⟨_, _, Le.refl _, F, ?_⟩
        have hc : line ≤ n := by simpa using hc
        show IntsAre _ _
        rw [htk, List.filter_append]
        exact intsApp J₁ (by simp [hc]; exact .cons _ _ .nil)
      · refine ⟨_, _, Le.refl _, F, ?_⟩
        have hc : ¬ line ≤ n := by simpa using hc
        show IntsAre _ _
        rw [htk, List.filter_append]
        simpa [hc] using J₁
    · clear F
      intro D m' G₁ G₂ ys s le J' le' hD F
      have J' : IntsAre ys _ := J'
      rw [lu, List.take_length] at J'
      ((with_reducible refine next_ (by assumption) ?_); refine execsK ?_; intro _ _ _; (with_reducible refine wpAny_Return_some ?_); (with_reducible refine wpAny_IfExp ?_); (with_reducible refine wpAny_isTrue_value ?_ (by with_unfolding_all (intros; rfl))); refine nameL F (by first | rfl | assumption) ?_)
      have hyl : ys.length ≤ xs.length := by rw [J'.length]; exact List.length_filter_le _ _
      refine wpAny_truthy_list (F.f.lstG hD) (by simp; omega) ?_
      replace F := F.tok (s.toks + 1 + 1)
      generalize hfl : xs.filter (fun n => decide (line ≤ n)) = fl' at J'
      cases J' with
      | nil =>
        refine ifF ?_
        ((with_reducible refine wpAny_UnaryOp ?_); (with_reducible refine constI F ?_); clear F; intro t s F; (with_reducible refine negI F ?_); clear F; intro t s F; (with_reducible refine rt_ (by assumption) ?_))
        repeat (with_reducible first | refine rt_ (by assumption) ?_ | refine fo_ (by assumption) ?_ | refine lp_r (by assumption) ?_)
        exact ret _ _ _ _ [] [] _ F ((le1.trans le).trans le') rfl ⟨_, _, rfl, lineFrom_nil ⟨hasc, hset⟩ hfl⟩
      | cons n t3 r =>
        refine ifT ?_
        ((with_reducible refine Subscript_ ?_); refine nameL F (by first | rfl | assumption) ?_; (with_reducible refine constI F ?_); clear F; intro t s F)
        refine itemL (F.f.lstG hD) (by decide) (by decide) (by rfl) ?_
        repeat (with_reducible first | refine rt_ (by assumption) ?_ | refine fo_ (by assumption) ?_ | refine lp_r (by assumption) ?_)
        exact ret _ _ _ _ [] [] _ F ((le1.trans le).trans le') rfl ⟨_, _, rfl, lineFrom_cons ⟨hasc, hset⟩ hfl⟩
end
end

/-! F13 -/
section
section
variable {w : World} {T : Heap} {A : Around} {G : View} {x : Addr} {names : List PySem.Str} {rvs : List Value} {rows : List Row} {sps : List Sp}
set_option pp.deepTerms false
set_option pp.deepTerms.threshold 3
set_option pp.maxSteps 1500
theorem places_of_ok {f : PySem.Str} {line : Int} {t1 t2 : Tok} (C : Cx (KK w) T) (hA : Ok A 9) (H : TabAt G x names rvs rows sps) :
    Calls PR w T A (.ref 96) [.ref x, .str f t1, .int line t2] G [] (fun G' _ v => ∃ n, LineFrom (Told rows sps (fileNo names f)) line n ∧ IntsIs G' v (if 0 ≤ n then (begs rows sps (fileNo names f) n sps.length).1 else [])) := by
  refine Calls.of_def C (binds := [("self", .ref x), ("file", .str f t1), ("line", .int line t2)]) hA (by with_unfolding_all rfl) (by with_unfolding_all rfl) (by with_unfolding_all rfl) ?_ ?_ ?_
  · intro n x hx
    left
    simp only [List.mem_cons, List.not_mem_nil, or_false] at hx
    rcases hx with rfl | rfl | rfl <;> rfl
  · decide
  · clear hA; intro S L s A hA Q E F ret
    have H' := H
    obtain ⟨hrv, ⟨hb1, hb2, hb3, hb4⟩, es, fl, rl, sl, nvs, svs, I, ef, er, es', el, hf, hfn, hr, hsl, hsp⟩ := H
    (refine execsK ?_; intro _ _ _; (with_reducible refine wpAny_Assign_Name ?_ (by with_unfolding_all (intros; rfl))); (with_reducible refine MethodCall_ ?_ (by with_unfolding_all (intros; rfl))); refine nameL F (by first | rfl | assumption) ?_; refine methG C F (by assumption) (clsOk106 _) (by first | with_reducible exact me_like _ | with_reducible exact me_place _ | with_reducible exact me_number _ | with_reducible exact me_name _ | with_reducible exact me_row _ | with_reducible exact me_span _ | with_reducible exact me_begin _ | with_reducible exact me_lines _ | with_reducible exact me_from _ | with_reducible exact me_places _ | with_reducible exact me_second _) (by first | exact noName (by assumption) _ (by rfl) | rfl) ?_; refine callWith_K C.X (by rfl) ?_; (with_reducible refine wpAny_items_cons ?_ (by with_unfolding_all (intros; rfl))); refine nameL F (by first | rfl | assumption) ?_; (with_reducible refine wpAny_items_cons ?_ (by with_unfolding_all (intros; rfl))); refine nameL F (by first | rfl | assumption) ?_; (with_reducible refine wpAny_items_nil ?_); refine inAnd C F ?_)
    refine Fs.calls0 (line_from_ok C (hA.mono (by decide)) H') F ?_
    clear F; rintro s G1 _ le1 F ⟨n, t3, rfl, hn⟩
    replace I := I.mono le1; replace H' := H'.mono le1
    (refine storeL F ?_; clear F; intro s F; (with_reducible refine next_ (by assumption) ?_); refine execsK ?_; intro _ _ _; (with_reducible refine wpAny_Return_some ?_); (with_reducible refine wpAny_IfExp ?_); (with_reducible refine wpAny_isTrue_Compare1 ?_ (by with_unfolding_all (intros; rfl))); refine nameL F (by first | rfl | assumption) ?_; (with_reducible refine constI F ?_); clear F; intro t s F; (with_reducible refine PyProof.Rows.ge_int ?_); (with_reducible refine wpAny_truthy_bool ?_))
    refine splitB (fun hc => ?_) (fun hc => ?_)
    · have hc : 0 ≤ n := by simpa using hc
      ((with_reducible refine MethodCall_ ?_ (by with_unfolding_all (intros; rfl))); refine nameL F (by first | rfl | assumption) ?_; refine methG C F (by assumption) (clsOk106 _) (by first | with_reducible exact me_like _ | with_reducible exact me_place _ | with_reducible exact me_number _ | with_reducible exact me_name _ | with_reducible exact me_row _ | with_reducible exact me_span _ | with_reducible exact me_begin _ | with_reducible exact me_lines _ | with_reducible exact me_from _ | with_reducible exact me_places _ | with_reducible exact me_second _) (by first | exact noName (by assumption) _ (by rfl) | rfl) ?_; refine callWith_K C.X (by rfl) ?_; (with_reducible refine wpAny_items_cons ?_ (by with_unfolding_all (intros; rfl))); (with_reducible refine MethodCall_ ?_ (by with_unfolding_all (intros; rfl))); refine nameL F (by first | rfl | assumption) ?_; refine methG C F (by assumption) (clsOk106 _) (by first | with_reducible exact me_like _ | with_reducible exact me_place _ | with_reducible exact me_number _ | with_reducible exact me_name _ | with_reducible exact me_row _ | with_reducible exact me_span _ | with_reducible exact me_begin _ | with_reducible exact me_lines _ | with_reducible exact me_from _ | with_reducible exact me_places _ | with_reducible exact me_second _) (by first | exact noName (by assumption) _ (by rfl) | rfl) ?_; refine callWith_K C.X (by rfl) ?_; (with_reducible refine wpAny_items_cons ?_ (by with_unfolding_all (intros; rfl))); refine nameL F (by first | rfl | assumption) ?_; (with_reducible refine wpAny_items_nil ?_); refine inAnd C F ?_)
      refine Fs.calls0 (file_number_ok C (hA.mono (by decide)) H') F ?_
      clear F; rintro s G2 _ le2 F ⟨t2, rfl⟩
      replace H' := H'.mono le2
      ((with_reducible refine wpAny_items_cons ?_ (by with_unfolding_all (intros; rfl))); refine nameL F (by first | rfl | assumption) ?_; (with_reducible refine wpAny_items_nil ?_); refine inAnd C F ?_)
      refine Fs.calls0 (begin_ok C (hA.mono (by decide)) H') F ?_
      clear F; rintro s G3 v le3 F hv
      repeat (with_reducible first | refine rt_ (by assumption) ?_ | refine fo_ (by assumption) ?_ | refine lp_r (by assumption) ?_)
      exact ret _ _ _ _ [] [] _ F ((le1.trans le2).trans le3) rfl ⟨n, hn, by rwa [if_pos hc]⟩
    · have hc : ¬ 0 ≤ n := by simpa using hc
      ((with_reducible refine lstR ?_); (with_reducible refine wpAny_items_nil ?_))
      refine lst_end F ?_
      clear F; intro a s G2 le2 ha F
      repeat (with_reducible first | refine rt_ (by assumption) ?_ | refine fo_ (by assumption) ?_ | refine lp_r (by assumption) ?_)
      exact ret _ _ _ _ [] [] _ F (le1.trans le2) rfl ⟨n, hn, by rw [if_neg hc]; exact ⟨a, [], rfl, ⟨_, ha, isL_lst _⟩, .nil⟩⟩
end
end

/-! F14 -/
section
def intAt0 (v : Value) : Int := match v with
  | .int i _ => i
  | _ => 0
def seqAt0 (o : Obj) : Int := match o.data with
  | .seq vs _ => (match vs.toList with
    | v :: _ => intAt0 v
    | [] => 0)
  | _ => 0
def spLo (G : View) (v : Value) : Int := match v with
  | .ref a => (match G a with
    | some o => seqAt0 o
    | none => 0)
  | _ => 0
theorem spLo_at {G : View} {v : Value} {p : Sp} (h : SpAt G v p) : spLo G v = p.lo := by
  obtain ⟨a, t1, t2, t3, rfl, n, h⟩ := h
  unfold spLo
  simp only [h]
  rfl
section
variable {prog : Program} {w : World} {A : Around} {s : Shared} {G : View}
theorem spanKey {vs : List Value} {sps : List Sp} {D : Addr} (hv : All2 (SpAt G) vs sps) (hd : ∀ p ∈ sps, ∀ q ∈ sps, p.lo = q.lo → p = q) (hD : G D = none) (view : ∀ a o, G a = some o → s.heap.get? a = some o) :
    ∃ SKy : SKey prog w A D s, SKy.kf = spLo G ∧ SKy.V = (· ∈ vs) := by
  have at_ : ∀ v ∈ vs, ∀ s' : Shared, (∀ c x, c ≠ D → s.heap.get? c = some x → s'.heap.get? c = some x) → ∃ p a t1 t2 t3 n, p ∈ sps ∧ SpAt G v p ∧ v = .ref a ∧ s'.heap.get? a = some { cls := .type "tuple", data := .seq #[.int p.lo t1, .int p.hi t2, .int p.at_ t3] n } := by
    intro v hv' s' keep
    obtain ⟨p, hp, h⟩ := hv.mem hv'
    have h' := h
    obtain ⟨a, t1, t2, t3, rfl, n, h⟩ := h
    exact ⟨p, a, t1, t2, t3, n, hp, h', rfl, keep a _ (fun e => by rw [e, hD] at h; cases h) (view _ _ h)⟩
  have ec : (Value.type "int" != Value.type "tuple") = true := by decide +kernel
  refine ⟨⟨PyProof.Rows.tuples' true, spLo G, (· ∈ vs), fun s' keep E x y Q hx hy h => ?_, fun s' keep E us Q h2 hu h => ?_⟩, rfl, rfl⟩
  · obtain ⟨p, a, t1, t2, t3, n, hp, hsp, rfl, ha⟩ := at_ x hx s' keep
    obtain ⟨q, b, u1, u2, u3, k, hq, hsq, rfl, hb⟩ := at_ y hy s' keep
    rw [spLo_at hsp, spLo_at hsq] at h
    refine PySem.W.kat_lt ha rfl hb rfl ?_
    refine PySem.W.kat_cons (EqAt.int_int _ _ _ _ _ _ _ _ ?_)
    by_cases e : p.lo = q.lo
    · have := hd p hp q hq e
      subst this
      rw [beq_self_eq_true]
      refine PySem.W.kat_yes (PySem.W.kat_cons (EqAt.int_int _ _ _ _ _ _ _ _ ?_))
      rw [beq_self_eq_true]
      refine PySem.W.kat_yes (PySem.W.kat_cons (EqAt.int_int _ _ _ _ _ _ _ _ ?_))
      rw [beq_self_eq_true]
      refine PySem.W.kat_yes (PySem.W.kat_nil ?_)
      simpa using h
    · rw [beq_eq_false_iff_ne.mpr e]
      exact PySem.W.kat_no (PyProof.Rows.oneLt_int h)
  · obtain ⟨fs, hfs, hne, hint⟩ : ∃ fs, PySem.W.KatTups s'.heap us fs ∧ fs.length = us.length ∧ ∀ v ∈ fs, ∃ i t, v = Value.int i t := by
      clear h2 h
      induction us with
      | nil => exact ⟨[], PySem.W.KatTups.nil, rfl, fun v hv => nomatch hv⟩
      | cons v us ih =>
        obtain ⟨fs, h1, h2, h3⟩ := ih fun v hv => hu v (.tail _ hv)
        obtain ⟨p, a, t1, t2, t3, n, hp, hsp, rfl, ha⟩ := at_ v (hu _ (.head _)) s' keep
        refine ⟨.int p.lo t1 :: fs, PySem.W.KatTups.cons ha rfl rfl (by simp) h1, by simp [h2], fun v hv => ?_⟩
        rcases List.mem_cons.mp hv with rfl | hv
        · exact ⟨_, _, rfl⟩
        · exact h3 v hv
    refine PySem.W.kat_kind (T := Value.type "int") hfs (by lia) (fun v hv => ?_) (by decide +kernel) ?_
    · obtain ⟨i, t, rfl⟩ := hint v hv
      exact PySem.W.Looks.of_pure rfl
    · rw [ec]; exact h
end
end

/-! F15 -/
section
def spAt? (rows : List Row) (at_ : Nat) : Option Sp := match rows[at_]?, rows[at_ + 1]? with
  | some r, some t => if r.fin = false ∧ r.addr < t.addr then some ⟨r.addr, t.addr, at_⟩ else none
  | _, _ => none
def spsRaw (rows : List Row) (n : Nat) : List Sp := (List.range n).filterMap (spAt? rows)
theorem spsRaw_succ (rows : List Row) (n : Nat) : spsRaw rows (n + 1) = spsRaw rows n ++ (spAt? rows n).toList := by
  unfold spsRaw
  rw [List.range_succ, List.filterMap_append]
  cases h : spAt? rows n <;> simp [h]
theorem spsRaw_len (rows : List Row) (n : Nat) : (spsRaw rows n).length ≤ n := by
  unfold spsRaw
  exact Nat.le_trans (List.length_filterMap_le ..) (by simp)
theorem spsRaw_mem {rows : List Row} {n : Nat} {p : Sp} : p ∈ spsRaw rows n ↔ p.at_ < n ∧ spAt? rows p.at_ = some p := by
  unfold spsRaw
  rw [List.mem_filterMap]
  constructor
  · rintro ⟨a, ha, h⟩
    have : p.at_ = a := by
      unfold spAt? at h
      split at h
      · split at h
        · cases h; rfl
        · cases h
      · cases h
    rw [this]; exact ⟨List.mem_range.mp ha, h⟩
  · rintro ⟨h1, h2⟩
    exact ⟨_, List.mem_range.mpr h1, h2⟩
namespace All2
variable {α β : Type} {R : α → β → Prop}
theorem perm {as as' : List α} (p : as'.Perm as) : ∀ {bs : List β}, All2 R as bs → ∃ bs', bs'.Perm bs ∧ All2 R as' bs' := by
  induction p with
  | nil => intro bs h; exact ⟨bs, .refl _, h⟩
  | cons x _ ih =>
    intro bs h
    cases h with
    | cons r t =>
      obtain ⟨bs', p', h'⟩ := ih t
      exact ⟨_ :: bs', p'.cons _, .cons r h'⟩
  | swap x y l =>
    intro bs h
    cases h with
    | cons r t =>
      cases t with
      | cons r' t' => exact ⟨_, .swap _ _ _, .cons r' (.cons r t')⟩
  | trans _ _ ih1 ih2 =>
    intro bs h
    obtain ⟨b1, p1, h1⟩ := ih2 h
    obtain ⟨b2, p2, h2⟩ := ih1 h1
    exact ⟨b2, p2.trans p1, h2⟩
theorem pair {as : List α} {bs : List β} {S : α → α → Prop} {S' : β → β → Prop} (h : All2 R as bs) (hp : as.Pairwise S) (k : ∀ a a' b b', R a b → R a' b' → S a a' → S' b b') : bs.Pairwise S' := by
  induction h with
  | nil => exact .nil
  | cons r t ih =>
    obtain ⟨h1, h2⟩ := List.pairwise_cons.mp hp
    refine List.pairwise_cons.mpr ⟨fun b hb => ?_, ih h2⟩
    obtain ⟨i, hi⟩ := List.mem_iff_getElem?.mp hb
    obtain ⟨a, ha, ra⟩ := t.get' hi
    exact k _ _ _ _ r ra (h1 a (List.mem_of_getElem? ha))
end All2
/-- the spans of rows, in order -/
def SpsFor (rows : List Row) (sps : List Sp) : Prop := sps.Perm (spsRaw rows (rows.length - 1)) ∧ sps.Pairwise (fun p q => p.lo ≤ q.lo)

section
variable {w : World} {T : Heap} {A : Around} {G : View} {names : List PySem.Str} {rvs : List Value} {rows : List Row}
set_option pp.deepTerms false
set_option pp.deepTerms.threshold 3
set_option pp.maxSteps 1500
theorem table_init {x dx fl rl : Addr} {nvs : List Value} (C : Cx (KK w) T) (hA : Ok A 3) (hx : G x = some (instObj 106 dx)) (hf : LstX G fl nvs) (hr : LstAt G rl rvs) (hrv : All2 (RowAt G) rvs rows) (hlen : rows.length ≤ 100)
    (huni : ∀ p ∈ spsRaw rows (rows.length - 1), ∀ q ∈ spsRaw rows (rows.length - 1), p.lo = q.lo → p = q) :
    Calls PR w T A (.ref 28) [.ref x, .ref fl, .ref rl] G [(dx, PySem.W.dictOf [] 0)] (fun G' mu' v => v = .none ∧ Le G G' ∧ ∃ es n sl svs sps, mu' = [(dx, PySem.W.dictOf es n)] ∧
      getL "files" es = some (some (.ref fl)) ∧ getL "rows" es = some (some (.ref rl)) ∧ getL "spans" es = some (some (.ref sl)) ∧ (∃ h1 k1 v1 h2 k2 v2 h3 k3 v3, es = [⟨h1, .str "files" k1, v1⟩, ⟨h2, .str "rows" k2, v2⟩, ⟨h3, .str "spans" k3, v3⟩]) ∧
      LstAt G' sl svs ∧ All2 (SpAt G') svs sps ∧ SpsFor rows sps) := by
  refine Calls.of_def C (binds := [("self", .ref x), ("files", .ref fl), ("rows", .ref rl)]) hA (by with_unfolding_all rfl) (by with_unfolding_all rfl) (by with_unfolding_all rfl) ?_ ?_ ?_
  · intro n x hx
    left
    simp only [List.mem_cons, List.not_mem_nil, or_false] at hx
    rcases hx with rfl | rfl | rfl <;> rfl
  · decide
  · clear hA; intro S L s A hA Q E F ret
    have l2 := hrv.len
    (refine execsK ?_; intro _ _ _; (with_reducible refine plainObj_wpAny_Assign_Attribute ?_ (by with_unfolding_all (intros; rfl))); refine nameL F (by first | rfl | assumption) ?_; refine nameL F (by first | rfl | assumption) ?_)
    refine setM (pre := []) C F hx (se_files w) (by rfl) (Nat.le_of_ble_eq_true rfl) ?_
    clear F; intro h1 k1 s F
    ((with_reducible refine next_ (by assumption) ?_); refine execsK ?_; intro _ _ _; (with_reducible refine wpAny_Assign_Name ?_ (by with_unfolding_all (intros; rfl))); (with_reducible refine lstR ?_); (with_reducible refine wpAny_items_nil ?_))
    refine lst_endM F ?_
    clear F; intro l s F
    (refine storeL F ?_; clear F; intro s F; (with_reducible refine next_ (by assumption) ?_); refine execsK ?_; intro _ _ _; (with_reducible refine For_ ?_ (by with_unfolding_all (intros; rfl))); intro _ _; (with_reducible refine Call_ ?_ (by with_unfolding_all (intros; rfl))); refine nameB C F (by rfl) (by first | with_reducible exact PySem.boot_len | with_reducible exact PyProof.Rows.boot_range | with_reducible exact PyProof.Rows.boot_sorted | with_reducible exact PyProof.Rows.boot_list | with_reducible exact PyProof.Rows.boot_enumerate) (by decide) ?_; (with_reducible refine PyProof.Rows.callWith_type1 ?_ (by with_unfolding_all (intros; rfl)) (by with_unfolding_all (intros; rfl))); (with_reducible refine wpAny_items_cons ?_ (by with_unfolding_all (intros; rfl))); (with_reducible refine wpAny_BinOp ?_); (with_reducible refine Call_ ?_ (by with_unfolding_all (intros; rfl))); refine nameB C F (by rfl) (by first | with_reducible exact PySem.boot_len | with_reducible exact PyProof.Rows.boot_range | with_reducible exact PyProof.Rows.boot_sorted | with_reducible exact PyProof.Rows.boot_list | with_reducible exact PyProof.Rows.boot_enumerate) (by decide) ?_; (with_reducible refine PyProof.Rows.callWith_builtin1 ?_ (by with_unfolding_all (intros; rfl)) (by with_unfolding_all (intros; rfl))); (with_reducible refine wpAny_items_cons ?_ (by with_unfolding_all (intros; rfl))); refine nameL F (by first | rfl | assumption) ?_; (with_reducible refine wpAny_items_nil ?_))
    refine lenL F (F.f.lstG hr) (by omega) ?_
    clear F; intro t s F
    ((with_reducible refine constI F ?_); clear F; intro t s F; (with_reducible refine subI F ?_); clear F; intro t s F; (with_reducible refine wpAny_items_nil ?_))
    refine rng1 F ?_
    clear F; intro rg s G1 le1 hrg F
    replace hx := le1 _ _ hx; replace hr := hr.mono le1; replace hrv := hrv.mono (RowAt.mono le1)
    let J : Nat → Nm → Nm → View → Mu → Prop := fun i m cm G' mu => E2 fun vs n => A5 (mu = [(l, PySem.W.listOf vs.toArray n), (dx, PySem.W.dictOf (putL "files" h1 (.str "files" k1) (.ref fl) []) (putN "files" [] 0))]) (All2 (SpAt G') vs (spsRaw rows i)) (m "self" = some (.ref x)) (m "rows" = some (.ref rl)) (m "found" = some (.ref l))
    refine loopR hA.handled F hrg (by decide) (by decide) (by omega) (by omega) J ⟨[], _, rfl, .nil, rfl, rfl, rfl⟩ ?_ ?_
    · clear F
      rintro i ti m₁ cm₁ G₁ mu₁ p s E₁ hi le ⟨vs, n, rfl, hvs, ms, mr, mf⟩ F
      intro _ _
      rw [Int.zero_add] at F
      replace hr := hr.mono le; replace hrv := hrv.mono (RowAt.mono le)
      have hi1 : i < rows.length := by omega
      have hi2 : i + 1 < rows.length := by omega
      obtain ⟨va, hva, xa, esa, u1, u2, u3, rfl, Ia, ea1, ea2, ea3, ea4, ea5⟩ := hrv.get' (List.getElem?_eq_getElem hi1)
      obtain ⟨vb, hvb, xb, esb, y1, y2, y3, rfl, Ib, eb1, eb2, eb3, eb4, eb5⟩ := hrv.get' (List.getElem?_eq_getElem hi2)
      have hs0 : spAt? rows i = if rows[i].fin = false ∧ rows[i].addr < rows[i + 1].addr then some ⟨rows[i].addr, rows[i + 1].addr, i⟩ else none := by
        unfold spAt?; simp only [List.getElem?_eq_getElem hi1, List.getElem?_eq_getElem hi2]
      have hvl := hvs.len
      have hsl := spsRaw_len rows i
      have em : (i : Int) + 1 = ((i + 1 : Nat) : Int) := by omega
      (refine execsK ?_; intro _ _ _; refine Assign_Tuple_swapped ?_ (by rfl) (by rfl); (with_reducible refine tupR ?_); (with_reducible refine wpAny_items_cons ?_ (by with_unfolding_all (intros; rfl))); (with_reducible refine Subscript_ ?_); refine nameL F (by first | rfl | assumption) ?_; refine nameL F (by first | rfl | assumption) ?_; refine itemLn F (by assumption) (by assumption) (by omega) ?_; (with_reducible refine wpAny_items_cons ?_ (by with_unfolding_all (intros; rfl))); (with_reducible refine Subscript_ ?_); refine nameL F (by first | rfl | assumption) ?_; (with_reducible refine wpAny_BinOp ?_); refine nameL F (by first | rfl | assumption) ?_; (with_reducible refine constI F ?_); clear F; intro t s F; (with_reducible refine addI F ?_); clear F; intro t s F)
      rw [em]
      (refine itemLn F (by assumption) (by assumption) (by omega) ?_; (with_reducible refine wpAny_items_nil ?_))
      refine tup_end F ?_
      clear F; intro p1 s G2 le2 hp1 F
      replace Ia := Ia.mono le2; replace Ib := Ib.mono le2
      skip
      refine unpackIT hA.handled F ⟨_, hp1⟩ (by rfl) ?_
      clear F; intro s F
      (refine inOrder_cons ?_; (with_reducible refine bindName_ ?_); refine storeL F ?_; clear F; intro s F; refine inOrder_cons ?_; (with_reducible refine bindName_ ?_); refine storeL F ?_; clear F; intro s F; refine inOrder_nil ?_; (with_reducible refine next_ (by assumption) ?_); refine execsK ?_; intro _ _ _)
      refine ifS F (fun G' mu' c => G' = G2 ∧ mu' = [(l, PySem.W.listOf vs.toArray n), (dx, PySem.W.dictOf (putL "files" h1 (.str "files" k1) (.ref fl) []) (putN "files" [] 0))] ++ [p] ∧ c = (!rows[i].fin && decide (rows[i].addr < rows[i + 1].addr))) ?_ ?_
      · intro E
        ((with_reducible refine wpAny_isTrue_BoolOp ?_); (with_reducible refine wpAny_allTrue_And_cons ?_); (with_reducible refine wpAny_isTrue_Not ?_); (with_reducible refine wpAny_isTrue_value ?_ (by with_unfolding_all (intros; rfl))); (with_reducible refine Attribute_any_ ?_ (by with_unfolding_all (intros; rfl))); refine nameL F (by first | rfl | assumption) ?_; refine attrG C F (by assumption) (clsOk127 _) (by first | with_reducible exact at_address _ | with_reducible exact at_file _ | with_reducible exact at_line _ | with_reducible exact at_is_stmt _ | with_reducible exact at_is_end _) (by first | assumption | rfl) (by rfl) ?_; clear F; intro s F; (with_reducible refine wpAny_truthy_bool ?_))
        cases hfin : rows[i].fin with
        | true =>
          (refine ifF ?_)
          exact ⟨G2, _, Le.refl _, F, rfl, rfl, by simp⟩
        | false =>
          (refine ifT ?_; (with_reducible refine wpAny_allTrue_And_cons ?_); (with_reducible refine wpAny_isTrue_Compare1 ?_ (by with_unfolding_all (intros; rfl))); (with_reducible refine Attribute_any_ ?_ (by with_unfolding_all (intros; rfl))); refine nameL F (by first | rfl | assumption) ?_; refine attrG C F (by assumption) (clsOk127 _) (by first | with_reducible exact at_address _ | with_reducible exact at_file _ | with_reducible exact at_line _ | with_reducible exact at_is_stmt _ | with_reducible exact at_is_end _) (by first | assumption | rfl) (by rfl) ?_; clear F; intro s F; (with_reducible refine Attribute_any_ ?_ (by with_unfolding_all (intros; rfl))); refine nameL F (by first | rfl | assumption) ?_; refine attrG C F (by assumption) (clsOk127 _) (by first | with_reducible exact at_address _ | with_reducible exact at_file _ | with_reducible exact at_line _ | with_reducible exact at_is_stmt _ | with_reducible exact at_is_end _) (by first | assumption | rfl) (by rfl) ?_; clear F; intro s F; (with_reducible refine PyProof.Rows.gt_int ?_); (with_reducible refine wpAny_truthy_bool ?_))
          refine splitB (fun hc => ?_) (fun hc => ?_)
          · ((with_reducible refine wpAny_allTrue_And_nil ?_))
            exact ⟨G2, _, Le.refl _, F, rfl, rfl, by simpa using hc⟩
          · exact ⟨G2, _, Le.refl _, F, rfl, rfl, by simpa using hc⟩
      clear F
      rintro c _ _ s le3 F ⟨rfl, rfl, hc⟩
      have hsu := spsRaw_succ rows i
      refine splitB (fun hd => ?_) (fun hd => ?_)
      · rw [hd] at hc
        obtain ⟨c1, c2⟩ := Bool.and_eq_true_iff.mp hc.symm
        have c1 : rows[i].fin = false := by simpa using c1
        have c2 := of_decide_eq_true c2
        rw [if_pos ⟨c1, c2⟩] at hs0
        rw [hs0] at hsu
        (refine execsK ?_; intro _ _ _; (with_reducible refine wpAny_Expr ?_ (by with_unfolding_all (intros; rfl)) (by with_unfolding_all (intros; rfl))); (with_reducible refine MethodCall_ ?_ (by with_unfolding_all (intros; rfl))); refine nameL F (by first | rfl | assumption) ?_)
        refine methA (pre := []) F ?_
        ((with_reducible refine callWith_method1 ?_ (by with_unfolding_all (intros; rfl)) (by with_unfolding_all (intros; rfl))); (with_reducible refine wpAny_items_cons ?_ (by with_unfolding_all (intros; rfl))); (with_reducible refine tupR ?_); (with_reducible refine wpAny_items_cons ?_ (by with_unfolding_all (intros; rfl))); (with_reducible refine Attribute_any_ ?_ (by with_unfolding_all (intros; rfl))); refine nameL F (by first | rfl | assumption) ?_; refine attrG C F (by assumption) (clsOk127 _) (by first | with_reducible exact at_address _ | with_reducible exact at_file _ | with_reducible exact at_line _ | with_reducible exact at_is_stmt _ | with_reducible exact at_is_end _) (by first | assumption | rfl) (by rfl) ?_; clear F; intro s F; (with_reducible refine wpAny_items_cons ?_ (by with_unfolding_all (intros; rfl))); (with_reducible refine Attribute_any_ ?_ (by with_unfolding_all (intros; rfl))); refine nameL F (by first | rfl | assumption) ?_; refine attrG C F (by assumption) (clsOk127 _) (by first | with_reducible exact at_address _ | with_reducible exact at_file _ | with_reducible exact at_line _ | with_reducible exact at_is_stmt _ | with_reducible exact at_is_end _) (by first | assumption | rfl) (by rfl) ?_; clear F; intro s F; (with_reducible refine wpAny_items_cons ?_ (by with_unfolding_all (intros; rfl))); refine nameL F (by first | rfl | assumption) ?_; (with_reducible refine wpAny_items_nil ?_))
        refine tup_end F ?_
        clear F; intro p2 s G3 le4 hp2 F
        ((with_reducible refine wpAny_items_nil ?_))
        refine appendM (pre := []) F (by omega) ?_
        clear F; intro s F
        ((with_reducible refine next_ (by assumption) ?_); (with_reducible refine wpAny_execs_nil ?_); (with_reducible refine next_ (by assumption) ?_); (with_reducible refine wpAny_execs_nil ?_); (with_reducible refine lp_n (by assumption) ?_))
        refine ⟨_, _, _, [(l, _), _], le2.trans le4, F, vs ++ [.ref p2], _, rfl, ?_, ms, mr, mf⟩
        rw [hsu]
        exact (hvs.mono (SpAt.mono (le2.trans le4))).app (.one ⟨p2, _, _, _, rfl, _, hp2⟩)
      · rw [hd] at hc
        rw [if_neg (by rintro ⟨c1, c2⟩; rw [c1] at hc; simp at hc; omega)] at hs0
        rw [hs0] at hsu
        ((with_reducible refine wpAny_execs_nil ?_); (with_reducible refine next_ (by assumption) ?_); (with_reducible refine wpAny_execs_nil ?_); (with_reducible refine lp_n (by assumption) ?_))
        refine ⟨_, _, _, [(l, _), _], le2, F, vs, _, rfl, ?_, ms, mr, mf⟩
        rw [hsu]
        simpa using hvs.mono (SpAt.mono le2)
    · clear F
      rintro m₁ cm₁ G₁ mu₁ s le ⟨vs, n, rfl, hvs, ms, mr, mf⟩ F
      rw [show (((rvs.length : Nat) : Int) - 1 - 0).toNat = rows.length - 1 by omega] at hvs
      have hvl := hvs.len
      have hsl := spsRaw_len rows (rows.length - 1)
      replace hx := le _ _ hx
      ((with_reducible refine fo_ (by assumption) ?_); (with_reducible refine next_ (by assumption) ?_); refine execsK ?_; intro _ _ _; (with_reducible refine plainObj_wpAny_Assign_Attribute ?_ (by with_unfolding_all (intros; rfl))); refine nameL F (by first | rfl | assumption) ?_; refine nameL F (by first | rfl | assumption) ?_)
      refine setM (pre := [(l, _)]) C F hx (se_rows w) (by rfl) (Nat.le_of_ble_eq_true rfl) ?_
      clear F; intro h2 k2 s F
      ((with_reducible refine next_ (by assumption) ?_); refine execsK ?_; intro _ _ _; (with_reducible refine plainObj_wpAny_Assign_Attribute ?_ (by with_unfolding_all (intros; rfl))); (with_reducible refine Call_ ?_ (by with_unfolding_all (intros; rfl))); refine nameB C F (by rfl) (by first | with_reducible exact PySem.boot_len | with_reducible exact PyProof.Rows.boot_range | with_reducible exact PyProof.Rows.boot_sorted | with_reducible exact PyProof.Rows.boot_list | with_reducible exact PyProof.Rows.boot_enumerate) (by decide) ?_; (with_reducible refine PyProof.Rows.callWith_builtin1 ?_ (by with_unfolding_all (intros; rfl)) (by with_unfolding_all (intros; rfl))); (with_reducible refine wpAny_items_cons ?_ (by with_unfolding_all (intros; rfl))); refine nameL F (by first | rfl | assumption) ?_; (with_reducible refine wpAny_items_nil ?_))
      have hlx : l ∉ [(dx, PySem.W.dictOf [] 0)].map (·.1) := by
        have := F.f.mnd
        simp only [List.map_cons, List.map_nil, List.nil_append, List.cons_append, List.nodup_cons] at this
        exact this.1
      have M := F.f.mfr (l, PySem.W.listOf vs.toArray n) (.head _)
      obtain ⟨F', le'⟩ := F.f.freeze (M.resolve_left hlx) hlx
      replace F := (⟨F', F.r⟩ : Fs _ _ _ _ _ _ _)
      replace hx := le' _ _ hx
      replace hvs := hvs.mono (SpAt.mono le')
      clear F'
      refine sortedL (kf := spLo (ext G₁ l (PySem.W.listOf vs.toArray n))) (V := (· ∈ vs)) F ⟨_, ext_self .., rfl, _, rfl⟩ (fun v hv => hv) (by omega) (fun A' D s' hD hv => spanKey hvs huni hD hv) ?_
      clear F; intro D s G2 us le2 hD hpm hso F
      obtain ⟨sps, hsp1, hsp2⟩ := hvs.perm hpm
      have hsort : sps.Pairwise (fun p q => p.lo ≤ q.lo) := hsp2.pair hso fun a a' b b' h1 h2 h => by rwa [spLo_at h1, spLo_at h2] at h
      replace hx := le2 _ _ hx
      (refine nameL F (by first | rfl | assumption) ?_)
      refine setM (pre := []) C F hx (se_spans w) (by rfl) (Nat.le_of_ble_eq_true rfl) ?_
      clear F; intro h3 k3 s F
      ((with_reducible refine next_ (by assumption) ?_); (with_reducible refine wpAny_execs_nil ?_))
      have up : Le G1 G2 := (le.trans le').trans le2
      repeat (with_reducible first | refine rt_ (by assumption) ?_ | refine fo_ (by assumption) ?_ | refine lp_r (by assumption) ?_)
      exact ret s _ _ _ [(dx, _)] [] _ F (le1.trans up) rfl ⟨rfl, le1.trans up, _, _, D, us, sps, rfl, rfl, rfl, rfl, ⟨_, _, _, _, _, _, _, _, _, rfl⟩, hD, hsp2.mono (SpAt.mono le2), hsp1, hsort⟩
theorem table_new {fl rl : Addr} {nvs : List Value} (C : Cx (KK w) T) (hA : Ok A 4) (hf : LstX G fl nvs) (hfn : All2 StrIs nvs names) (hr : LstAt G rl rvs) (hrv : All2 (RowAt G) rvs rows) (hlen : rows.length ≤ 100) (hn : names.length ≤ 10)
    (huni : ∀ p ∈ spsRaw rows (rows.length - 1), ∀ q ∈ spsRaw rows (rows.length - 1), p.lo = q.lo → p = q) :
    Calls PR w T A (.ref 106) [.ref fl, .ref rl] G [] (fun G' _ v => ∃ x sps, v = .ref x ∧ TabAt G' x names rvs rows sps ∧ SpsFor rows sps) :=
  make_cls C (by rfl) (fI := 28) (by rfl) (by rfl) hA fun x dx G1 A' le1 hx hA' => (table_init C hA' hx (hf.mono le1) (hr.mono le1) (hrv.mono (RowAt.mono le1)) hlen huni).mono fun G' mu' v le h => by
    obtain ⟨rfl, le2, es, n, sl, svs, sps, rfl, e1, e2, e3, e4, e5, e6, e7⟩ := h
    refine ⟨rfl, es, n, rfl, fun G2 le3 I => ⟨x, sps, rfl, ⟨hrv.mono (RowAt.mono ((le1.trans le2).trans le3)), ⟨hlen, hn, ?_, fun p hp => ?_⟩, ?_⟩, e7⟩⟩
    · have := e7.1.length_eq; have := spsRaw_len rows (rows.length - 1); omega
    · have := (spsRaw_mem.mp (e7.1.mem_iff.mp hp)).1; omega
    · exact ⟨es, fl, rl, sl, nvs, svs, I, e1, e2, e3, e4, hf.mono ((le1.trans le2).trans le3), hfn, hr.mono ((le1.trans le2).trans le3), e5.mono le3, e6.mono (SpAt.mono le3)⟩
end
end

/-! P1 -/
section
/-- an address within the code of a row -/
def InRow (rows : List Row) (i : Nat) (a : Int) : Prop := ∃ r t, rows[i]? = some r ∧ rows[i + 1]? = some t ∧ r.fin = false ∧ r.addr ≤ a ∧ a < t.addr
structure RowsOk (many : Int) (rows : List Row) : Prop where
  len : rows.length ≤ 21
  code : ∀ r ∈ rows, r.fin = false → Code many r
  step : ∀ i r t, rows[i]? = some r → rows[i + 1]? = some t → r.fin = false → r.addr ≤ t.addr ∧ t.addr ≤ r.addr + 6
  lim : ∀ r ∈ rows, 1000 ≤ r.addr ∧ r.addr ≤ 2000
  apart : ∀ i j a, InRow rows i a → InRow rows j a → i = j
  cnt : (rows.filter (fun r => !r.fin)).length ≤ 18
/-- what is gathered of the rows before n -/
structure CovOf (rows : List Row) (n : Nat) (kvs : List (Int × Value)) : Prop where
  val : ∀ kv ∈ kvs, ∃ (i : Nat) (t : Tok), i < n ∧ kv.2 = .int i t ∧ InRow rows i kv.1
  key : ∀ i a, i < n → InRow rows i a → a ∈ kvs.map (·.1)
theorem stored_mem {kvs : List (Int × Value)} {k : Int} {v : Value} {kv : Int × Value} (h : kv ∈ stored kvs k v) : kv ∈ kvs ∨ kv = (k, v) := by
  unfold stored at h
  split at h
  · obtain ⟨x, hx, e⟩ := List.mem_map.mp h
    split at e
    · rename_i q; right; rw [← e, q]
    · left; rw [← e]; exact hx
  · rcases List.mem_append.mp h with h | h
    · exact .inl h
    · exact .inr (List.mem_singleton.mp h)
/-- code rows before n -/
def codeCnt (rows : List Row) (n : Nat) : Nat := ((rows.take n).filter (fun r => !r.fin)).length
theorem codeCnt_succ {rows : List Row} {n : Nat} {r : Row} (h : rows[n]? = some r) : codeCnt rows (n + 1) = codeCnt rows n + (if r.fin = false then 1 else 0) := by
  unfold codeCnt
  rw [List.take_add_one, h, List.filter_append, List.length_append]
  cases hf : r.fin <;> simp [hf]
theorem codeCnt_le {rows : List Row} {n : Nat} : codeCnt rows n ≤ (rows.filter (fun r => !r.fin)).length :=
  ((List.take_sublist n rows).filter _).length_le
theorem valueAt_mem {kvs : List (Int × Value)} {k : Int} {v : Value} (h : valueAt kvs k = some v) : (k, v) ∈ kvs := by
  unfold valueAt at h
  obtain ⟨kv, h1, h2⟩ := Option.map_eq_some_iff.mp h
  have := List.find?_some h1
  have hk : kv.1 = k := by simpa using this
  rw [← hk, ← h2]
  exact List.mem_of_find?_eq_some h1
theorem valueAt_some {kvs : List (Int × Value)} {k : Int} (h : k ∈ kvs.map (·.1)) : ∃ v, valueAt kvs k = some v := by
  obtain ⟨kv, hm, rfl⟩ := List.mem_map.mp h
  unfold valueAt
  cases q : kvs.find? (fun x => decide (x.1 = kv.1)) with
  | some x => exact ⟨x.2, rfl⟩
  | none =>
    have := List.find?_eq_none.mp q kv hm
    simp at this
theorem CovOf.at {rows : List Row} {n : Nat} {kvs : List (Int × Value)} (h : CovOf rows n kvs) {a : Int} {v : Value} (e : valueAt kvs a = some v) : ∃ (i : Nat) (t : Tok), i < n ∧ v = .int i t ∧ InRow rows i a := h.val _ (valueAt_mem e)
end

/-! F16 -/
section
section
variable {w : World} {T : Heap} {A : Around} {G : View} {rows : List Row} {many : Int}
set_option pp.deepTerms false
set_option pp.deepTerms.threshold 3
set_option pp.maxSteps 1500
theorem cover_ok {pl : Addr} (C : Cx (KK w) T) (hA : Ok A 3) (hr : PRows G (.ref pl) rows) (O : RowsOk many rows) :
    Calls PR w T A (.ref 153) [.ref pl] G [] (fun G' _ v => ∃ d kvs, v = .ref d ∧ DAt PR w G' d kvs ∧ CovOf rows rows.length kvs ∧ kvs.length ≤ 108) := by
  refine Calls.of_def C (binds := [("plain_rows", .ref pl)]) hA (by with_unfolding_all rfl) (by with_unfolding_all rfl) (by with_unfolding_all rfl) ?_ ?_ ?_
  · intro n x hx
    left
    simp only [List.mem_cons, List.not_mem_nil, or_false] at hx
    rcases hx with rfl <;> rfl
  · decide
  · clear hA; intro S L s A hA Q E F ret
    obtain ⟨pl', vs, e, hl, hvs⟩ := hr
    cases e
    have l2 := hvs.len
    have l3 := O.len
    (refine execsK ?_; intro _ _ _; (with_reducible refine wpAny_Assign_Name ?_ (by with_unfolding_all (intros; rfl))))
    refine dictE (prog := PR) (w := w) (sys_lt C) F ?_
    clear F; intro d s o hds ho F
    (refine storeL F ?_; clear F; intro s F; (with_reducible refine next_ (by assumption) ?_); refine execsK ?_; intro _ _ _; (with_reducible refine For_ ?_ (by with_unfolding_all (intros; rfl))); intro _ _; (with_reducible refine Call_ ?_ (by with_unfolding_all (intros; rfl))); refine nameB C F (by rfl) (by first | with_reducible exact PySem.boot_len | with_reducible exact PyProof.Rows.boot_range | with_reducible exact PyProof.Rows.boot_sorted | with_reducible exact PyProof.Rows.boot_list | with_reducible exact PyProof.Rows.boot_enumerate) (by decide) ?_; (with_reducible refine PyProof.Rows.callWith_type1 ?_ (by with_unfolding_all (intros; rfl)) (by with_unfolding_all (intros; rfl))); (with_reducible refine wpAny_items_cons ?_ (by with_unfolding_all (intros; rfl))); (with_reducible refine wpAny_BinOp ?_); (with_reducible refine Call_ ?_ (by with_unfolding_all (intros; rfl))); refine nameB C F (by rfl) (by first | with_reducible exact PySem.boot_len | with_reducible exact PyProof.Rows.boot_range | with_reducible exact PyProof.Rows.boot_sorted | with_reducible exact PyProof.Rows.boot_list | with_reducible exact PyProof.Rows.boot_enumerate) (by decide) ?_; (with_reducible refine PyProof.Rows.callWith_builtin1 ?_ (by with_unfolding_all (intros; rfl)) (by with_unfolding_all (intros; rfl))); (with_reducible refine wpAny_items_cons ?_ (by with_unfolding_all (intros; rfl))); refine nameL F (by first | rfl | assumption) ?_; (with_reducible refine wpAny_items_nil ?_))
    refine lenL F (F.f.lstG hl) (by omega) ?_
    clear F; intro t s F
    ((with_reducible refine constI F ?_); clear F; intro t s F; (with_reducible refine subI F ?_); clear F; intro t s F; (with_reducible refine wpAny_items_nil ?_))
    refine rng1 F ?_
    clear F; intro rg s G1 le1 hrg F
    replace hl := hl.mono le1; replace hvs := hvs.mono (PRow.mono le1)
    let J : Nat → Nm → Nm → View → Mu → Prop := fun i m cm G' mu => E2 fun o kvs => A6 (mu = [(d, o)]) (IsD PR w o kvs) (CovOf rows i kvs) (kvs.length ≤ 6 * codeCnt rows i) (m "plain_rows" = some (.ref pl)) (m "gathered" = some (.ref d))
    refine loopR hA.handled F hrg (by decide) (by decide) (by omega) (by omega) J ⟨o, [], rfl, ho, ⟨fun kv h => (nomatch h), fun i a h => absurd h (Nat.not_lt_zero _)⟩, Nat.zero_le _, rfl, rfl⟩ ?_ ?_
    · clear F ho
      rintro i ti m₁ cm₁ G₁ mu₁ p s E₁ hi le ⟨o, kvs, rfl, ho, hc, hz, mp, mg⟩ F
      intro _ _
      rw [Int.zero_add] at F
      replace hl := hl.mono le; replace hvs := hvs.mono (PRow.mono le)
      have hi1 : i < rows.length := by omega
      have hi2 : i + 1 < rows.length := by omega
      obtain ⟨va, hva, aa, ta1, ta2, ta3, rfl, hta⟩ := hvs.get' (List.getElem?_eq_getElem hi1)
      obtain ⟨vb, hvb, ab, tb1, tb2, tb3, rfl, htb⟩ := hvs.get' (List.getElem?_eq_getElem hi2)
      have em : (i : Int) + 1 = ((i + 1 : Nat) : Int) := by omega
      have hcs := codeCnt_succ (List.getElem?_eq_getElem hi1)
      have hcl := codeCnt_le (rows := rows) (n := i + 1)
      have hcm := O.cnt
      have lim1 := O.lim _ (List.getElem_mem hi1)
      have lim2 := O.lim _ (List.getElem_mem hi2)
      (refine execsK ?_; intro _ _ _)
      refine ifS F (fun G' mu' c => G' = G₁ ∧ mu' = [(d, o)] ++ [p] ∧ c = (!rows[i].fin)) ?_ ?_
      · intro E
        ((with_reducible refine wpAny_isTrue_Not ?_); (with_reducible refine wpAny_isTrue_value ?_ (by with_unfolding_all (intros; rfl))); (with_reducible refine Subscript_ ?_); (with_reducible refine Subscript_ ?_); refine nameL F (by first | rfl | assumption) ?_; refine nameL F (by first | rfl | assumption) ?_; refine itemLn F (by assumption) (by assumption) (by omega) ?_; (with_reducible refine constI F ?_); clear F; intro t s F; refine itemT (F.f.tup (by assumption)) (by decide) (by decide) (by rfl) ?_; (with_reducible refine wpAny_truthy_bool ?_))
        cases hfin : rows[i].fin with
        | true =>
          skip
          exact ⟨G₁, _, Le.refl _, F, rfl, rfl, rfl⟩
        | false =>
          skip
          exact ⟨G₁, _, Le.refl _, F, rfl, rfl, rfl⟩
      clear F
      rintro c _ _ s le3 F ⟨rfl, rfl, hcc⟩
      refine splitB (fun hd => ?_) (fun hd => ?_)
      · rw [hd] at hcc
        have hfin : rows[i].fin = false := by simpa using hcc.symm
        rw [if_pos hfin] at hcs
        have hst := O.step _ _ _ (List.getElem?_eq_getElem hi1) (List.getElem?_eq_getElem hi2) hfin
        have inR : ∀ a, InRow rows i a ↔ rows[i].addr ≤ a ∧ a < rows[i + 1].addr := fun a => by
          constructor
          · rintro ⟨r, t, h1, h2, h3, h4, h5⟩
            rw [List.getElem?_eq_getElem hi1] at h1; rw [List.getElem?_eq_getElem hi2] at h2
            cases h1; cases h2; exact ⟨h4, h5⟩
          · rintro ⟨h4, h5⟩
            exact ⟨_, _, List.getElem?_eq_getElem hi1, List.getElem?_eq_getElem hi2, hfin, h4, h5⟩
        (refine execsK ?_; intro _ _ _; (with_reducible refine For_ ?_ (by with_unfolding_all (intros; rfl))); intro _ _; (with_reducible refine Call_ ?_ (by with_unfolding_all (intros; rfl))); refine nameB C F (by rfl) (by first | with_reducible exact PySem.boot_len | with_reducible exact PyProof.Rows.boot_range | with_reducible exact PyProof.Rows.boot_sorted | with_reducible exact PyProof.Rows.boot_list | with_reducible exact PyProof.Rows.boot_enumerate) (by decide) ?_; (with_reducible refine PyProof.Rows.callWith_type1 ?_ (by with_unfolding_all (intros; rfl)) (by with_unfolding_all (intros; rfl))); (with_reducible refine wpAny_items_cons ?_ (by with_unfolding_all (intros; rfl))); (with_reducible refine Subscript_ ?_); (with_reducible refine Subscript_ ?_); refine nameL F (by first | rfl | assumption) ?_; refine nameL F (by first | rfl | assumption) ?_; refine itemLn F (by assumption) (by assumption) (by omega) ?_; (with_reducible refine constI F ?_); clear F; intro t s F; refine itemT (F.f.tup (by assumption)) (by decide) (by decide) (by rfl) ?_; (with_reducible refine wpAny_items_cons ?_ (by with_unfolding_all (intros; rfl))); (with_reducible refine Subscript_ ?_); (with_reducible refine Subscript_ ?_); refine nameL F (by first | rfl | assumption) ?_; (with_reducible refine wpAny_BinOp ?_); refine nameL F (by first | rfl | assumption) ?_; (with_reducible refine constI F ?_); clear F; intro t s F; (with_reducible refine addI F ?_); clear F; intro t s F)
        rw [em]
        (refine itemLn F (by assumption) (by assumption) (by omega) ?_; (with_reducible refine constI F ?_); clear F; intro t s F; refine itemT (F.f.tup (by assumption)) (by decide) (by decide) (by rfl) ?_; (with_reducible refine wpAny_items_nil ?_))
        refine rng2 F ?_
        clear F; intro rg2 s G2 le2 hrg2 F
        let J2 : Nat → Nm → Nm → View → Mu → Prop := fun j m cm G' mu => E2 fun o kvs => A9 (mu = [(d, o), p]) (IsD PR w o kvs) ((∀ kv ∈ kvs, ∃ (k : Nat) (t : Tok), k < i + 1 ∧ kv.2 = .int k t ∧ InRow rows k kv.1)) ((∀ k a, k < i → InRow rows k a → a ∈ kvs.map (·.1))) ((∀ a, rows[i].addr ≤ a → a < rows[i].addr + j → a ∈ kvs.map (·.1))) (kvs.length ≤ 6 * codeCnt rows i + j) (m "plain_rows" = some (.ref pl)) (m "gathered" = some (.ref d)) (m "at" = some (.int i ti))
        refine loopR hA.handled F hrg2 (by omega) (by omega) (by omega) (by omega) J2 ⟨o, kvs, rfl, ho, fun kv h => ?_, fun k a hk h => hc.key k a hk h, fun a h1 h2 => by omega, by omega, mp, mg, rfl⟩ ?_ ?_
        · obtain ⟨k, t, h1, h2, h3⟩ := hc.val kv h; exact ⟨k, t, by omega, h2, h3⟩
        · clear F ho hc hz
          rintro j tj m₂ cm₂ G₃ mu₂ p2 s E₂ hj le4 ⟨o, kvs, rfl, ho, hc1, hc2, hc3, hz, mp, mg, ma⟩ F
          intro _ _
          (refine execsK ?_; intro _ _ _; (with_reducible refine wpAny_Assign_Subscript ?_ (by with_unfolding_all (intros; rfl))); refine nameL F (by first | rfl | assumption) ?_; refine nameL F (by first | rfl | assumption) ?_; refine nameL F (by first | rfl | assumption) ?_)
          refine setD (prog := PR) (w := w) (pre := []) F ho (by omega) ?_
          clear F ho; intro s o ho F
          ((with_reducible refine next_ (by assumption) ?_); (with_reducible refine wpAny_execs_nil ?_); (with_reducible refine lp_n (by assumption) ?_))
          refine ⟨_, _, _, [(d, o), p], Le.refl _, F, o, _, rfl, ho, fun kv h => ?_, fun k a hk h => ?_, fun a h1 h2 => ?_, ?_, mp, mg, ma⟩
          · rcases stored_mem h with h | rfl
            · exact hc1 kv h
            · exact ⟨i, ti, by omega, rfl, (inR _).mpr ⟨by omega, by omega⟩⟩
          · exact mem_stored.mpr (.inl (hc2 k a hk h))
          · rw [mem_stored]
            by_cases e : a = rows[i].addr + j
            · exact .inr e
            · exact .inl (hc3 a h1 (by omega))
          · have := len_stored (kvs := kvs) (k := rows[i].addr + j) (v := .int i ti); omega
        · clear F ho hc hz
          rintro m₂ cm₂ G₃ mu₂ s le4 ⟨o, kvs, rfl, ho, hc1, hc2, hc3, hz, mp, mg, ma⟩ F
          ((with_reducible refine fo_ (by assumption) ?_); (with_reducible refine next_ (by assumption) ?_); (with_reducible refine wpAny_execs_nil ?_); (with_reducible refine next_ (by assumption) ?_); (with_reducible refine wpAny_execs_nil ?_); (with_reducible refine lp_n (by assumption) ?_))
          refine ⟨_, _, _, [(d, o)], le2.trans le4, F, o, _, rfl, ho, ⟨hc1, fun k a hk h => ?_⟩, by omega, mp, mg⟩
          by_cases e : k = i
          · subst e
            obtain ⟨h1, h2⟩ := (inR a).mp h
            exact hc3 a h1 (by omega)
          · exact hc2 k a (by omega) h
      · rw [hd] at hcc
        have hfin : rows[i].fin = true := by simpa using hcc.symm
        ((with_reducible refine wpAny_execs_nil ?_); (with_reducible refine next_ (by assumption) ?_); (with_reducible refine wpAny_execs_nil ?_); (with_reducible refine lp_n (by assumption) ?_))
        refine ⟨_, _, _, [(d, o)], Le.refl _, F, o, _, rfl, ho, ⟨fun kv h => ?_, fun k a hk h => ?_⟩, by rw [hfin] at hcs; omega, mp, mg⟩
        · obtain ⟨k, t, h1, h2, h3⟩ := hc.val kv h; exact ⟨k, t, by omega, h2, h3⟩
        · by_cases e : k = i
          · subst e
            obtain ⟨r, t, h1, h2, h3, h4, h5⟩ := h
            rw [List.getElem?_eq_getElem hi1] at h1; cases h1
            rw [hfin] at h3; cases h3
          · exact hc.key k a (by omega) h
    · clear F ho
      rintro m₁ cm₁ G₁ mu₁ s le ⟨o, kvs, rfl, ho, hc, hz, mp, mg⟩ F
      ((with_reducible refine fo_ (by assumption) ?_); (with_reducible refine next_ (by assumption) ?_); refine execsK ?_; intro _ _ _; (with_reducible refine wpAny_Return_some ?_); refine nameL F (by first | rfl | assumption) ?_; (with_reducible refine rt_ (by assumption) ?_))
      have hcl := codeCnt_le (rows := rows) (n := (((vs.length : Nat) : Int) - 1 - 0).toNat)
      have hcm := O.cnt
      have M := F.f.mfr (d, o) (.head _)
      obtain ⟨F', le'⟩ := F.f.freeze (M.resolve_left (fun h => nomatch h)) (fun h => nomatch h)
      repeat (with_reducible first | refine rt_ (by assumption) ?_ | refine fo_ (by assumption) ?_ | refine lp_r (by assumption) ?_)
      refine ret s _ _ _ [] [] _ ⟨F', F.r⟩ ((le1.trans le).trans le') rfl ⟨d, kvs, rfl, ⟨hds, o, ext_self .., ho⟩, ⟨fun kv h => ?_, fun k a hk h => ?_⟩, by omega⟩
      · obtain ⟨k, t, h1, h2, h3⟩ := hc.val kv h; exact ⟨k, t, by omega, h2, h3⟩
      · have h' := h
        obtain ⟨r, t, h1, h2, -⟩ := h'
        have := (List.getElem?_eq_some_iff.mp h2).1
        exact hc.key k a (by omega) h
end
end

/-! F17 -/
section
open Classical in
/-- file and line of the code at an address -/
noncomputable def ln (rows : List Row) (a : Int) : Option (Int × Int) := if h : ∃ i, InRow rows i a then rows[Classical.choose h]?.map (fun r => (r.file, r.line)) else none
theorem ln_in {many : Int} {rows : List Row} (O : RowsOk many rows) {i : Nat} {a : Int} {r : Row} (h : InRow rows i a) (hr : rows[i]? = some r) : ln rows a = some (r.file, r.line) := by
  have hx : ∃ i, InRow rows i a := ⟨i, h⟩
  unfold ln
  rw [dif_pos hx, O.apart _ _ _ (Classical.choose_spec hx) h, hr]; rfl
theorem ln_out {rows : List Row} {a : Int} (h : ∀ i, ¬ InRow rows i a) : ln rows a = none := by
  unfold ln
  rw [dif_neg (fun ⟨i, hi⟩ => h i hi)]
theorem ln_some {rows : List Row} {a : Int} {x : Int × Int} (h : ln rows a = some x) : ∃ i r, InRow rows i a ∧ rows[i]? = some r ∧ x = (r.file, r.line) := by
  by_cases q : ∃ i, InRow rows i a
  · unfold ln at h
    rw [dif_pos q] at h
    obtain ⟨r, hr, e⟩ := Option.map_eq_some_iff.mp h
    exact ⟨_, r, Classical.choose_spec q, hr, e.symm⟩
  · rw [ln_out (fun i hi => q ⟨i, hi⟩)] at h; cases h
section
variable {w : World} {T : Heap} {A : Around} {G : View} {rows : List Row} {many : Int}
set_option pp.deepTerms false
set_option pp.deepTerms.threshold 3
set_option pp.maxSteps 1500
theorem InRow.lt {i : Nat} {a : Int} (h : InRow rows i a) : i < rows.length := by
  obtain ⟨r, t, h1, -⟩ := h
  exact (List.getElem?_eq_some_iff.mp h1).1
theorem line_ok {pl d : Addr} {kvs : List (Int × Value)} {a : Int} {t : Tok} (C : Cx (KK w) T) (hA : Ok A 3) (hr : PRows G (.ref pl) rows) (O : RowsOk many rows) (D : DAt PR w G d kvs) (V : CovOf rows rows.length kvs) :
    Calls PR w T A (.ref 160) [.ref pl, .ref d, .int a t] G [] (fun G' _ v => OptPair G' v (ln rows a)) := by
  refine Calls.of_def C (binds := [("plain_rows", .ref pl), ("cover", .ref d), ("address", .int a t)]) hA (by with_unfolding_all rfl) (by with_unfolding_all rfl) (by with_unfolding_all rfl) ?_ ?_ ?_
  · intro n x hx
    left
    simp only [List.mem_cons, List.not_mem_nil, or_false] at hx
    rcases hx with rfl | rfl | rfl <;> rfl
  · decide
  · clear hA; intro S L s A hA Q E F ret
    obtain ⟨pl', vs, e, hl, hvs⟩ := hr
    cases e
    have l2 := hvs.len
    have l3 := O.len
    (refine execsK ?_; intro _ _ _; (with_reducible refine wpAny_Return_some ?_); (with_reducible refine wpAny_IfExp ?_); (with_reducible refine wpAny_isTrue_Compare1 ?_ (by with_unfolding_all (intros; rfl))); refine nameL F (by first | rfl | assumption) ?_; refine nameL F (by first | rfl | assumption) ?_)
    refine inD (prog := PR) (w := w) F D ?_
    clear F; intro s F
    ((with_reducible refine wpAny_truthy_bool ?_))
    cases hv : valueAt kvs a with
    | none =>
      refine ifF ?_
      ((with_reducible refine wpAny_Constant_none ?_); (with_reducible refine rt_ (by assumption) ?_))
      repeat (with_reducible first | refine rt_ (by assumption) ?_ | refine fo_ (by assumption) ?_ | refine lp_r (by assumption) ?_)
      refine ret s _ _ _ [] [] _ F (Le.refl _) rfl (.inl ⟨ln_out fun i hi => ?_, rfl⟩)
      obtain ⟨v, e⟩ := valueAt_some (V.key i a hi.lt hi)
      rw [hv] at e; cases e
    | some v =>
      obtain ⟨i, ti, hi, rfl, hin⟩ := V.at hv
      obtain ⟨va, hva, aa, ta1, ta2, ta3, rfl, hta⟩ := hvs.get' (List.getElem?_eq_getElem hi)
      refine ifT ?_
      ((with_reducible refine Subscript_ ?_); (with_reducible refine Subscript_ ?_); refine nameL F (by first | rfl | assumption) ?_; (with_reducible refine Subscript_ ?_); refine nameL F (by first | rfl | assumption) ?_; refine nameL F (by first | rfl | assumption) ?_)
      refine itemD (prog := PR) (w := w) F D hv ?_
      clear F; intro s F
      (refine itemLn F (by assumption) (by assumption) (by omega) ?_; (with_reducible refine evSlice ?_); (with_reducible refine wpAny_evalPart_some ?_); (with_reducible refine constI F ?_); clear F; intro t s F; (with_reducible refine wpAny_evalPart_some ?_); (with_reducible refine constI F ?_); clear F; intro t s F)
      refine sliceT F hta (.int _ _) (.int _ _) (by simp) ?_
      clear F; intro z s G1 le1 hz F
      repeat (with_reducible first | refine rt_ (by assumption) ?_ | refine fo_ (by assumption) ?_ | refine lp_r (by assumption) ?_)
      refine ret s _ _ _ [] [] _ F le1 rfl (.inr ⟨_, _, z, _, _, ln_in O hin (List.getElem?_eq_getElem hi), rfl, hz⟩)
end
end

/-! F18 -/
section
/-- where the code of one line around an address lies, as the law reckons it -/
def LawSpan (rows : List Row) (a : Int) (r : Option (Int × Int)) : Prop := (r = none ∧ ln rows a = none) ∨
  ∃ lo hi x, r = some (lo, hi) ∧ ln rows a = some x ∧ lo ≤ a ∧ a < hi ∧ (∀ y, lo ≤ y → y < hi → ln rows y = some x) ∧ ln rows (lo - 1) ≠ some x ∧ ln rows hi ≠ some x
theorem ln_lim {many : Int} {rows : List Row} (O : RowsOk many rows) {a : Int} {x : Int × Int} (h : ln rows a = some x) : 1000 ≤ a ∧ a ≤ 2000 := by
  obtain ⟨i, r, ⟨r', t, h1, h2, h3, h4, h5⟩, -, -⟩ := ln_some h
  have := O.lim _ (List.mem_of_getElem? h1)
  have := O.lim _ (List.mem_of_getElem? h2)
  lia
section
variable {w : World} {T : Heap} {A : Around} {G : View} {rows : List Row} {many : Int}
set_option pp.deepTerms false
set_option pp.deepTerms.threshold 3
set_option pp.maxSteps 1500
theorem eqOT {prog : Program} {w : World} {b : Bs} {env : Env} {m cm : Nm} {mu : Mu} {s : Shared} {E : Value → Shared → Prop} {Q : Value → Shared → Prop} {v : Value} {y : Addr} {r : Option (Int × Int)} {f l : Int} {t1 t2 : Tok} {n : Nat}
    (hA : Ok A n) (F : Fs b env m cm G mu s) (hv : OptPair G v r) (hy : TupAt G y [.int f t1, .int l t2]) (h : Q (.bool (decide (r = some (f, l)))) s) : wpAny (model prog w) A (compareOp .Eq v (.ref y)) Q E s := by
  rcases hv with ⟨rfl, rfl⟩ | ⟨lo, hi, t, u1, u2, rfl, rfl, ht⟩
  · exact eqNT hA F hy (.cons _ _ (.cons _ _ .nil)) (by simpa using h)
  · refine eqTT hA F ht (.cons _ _ (.cons _ _ .nil)) hy (.cons _ _ (.cons _ _ .nil)) ?_
    have : decide ([lo, hi] = [f, l]) = decide (some (lo, hi) = some (f, l)) := by simp
    rw [this]; exact h
theorem span_ok {pl d : Addr} {kvs : List (Int × Value)} {a : Int} {t : Tok} (C : Cx (KK w) T) (hA : Ok A 5) (hr : PRows G (.ref pl) rows) (O : RowsOk many rows) (D : DAt PR w G d kvs) (V : CovOf rows rows.length kvs) :
    Calls PR w T A (.ref 167) [.ref pl, .ref d, .int a t] G [] (fun G' _ v => ∃ r, OptPair G' v r ∧ LawSpan rows a r) := by
  refine Calls.of_def C (binds := [("plain_rows", .ref pl), ("cover", .ref d), ("address", .int a t)]) hA (by with_unfolding_all rfl) (by with_unfolding_all rfl) (by with_unfolding_all rfl) ?_ ?_ ?_
  · intro n x hx
    left
    simp only [List.mem_cons, List.not_mem_nil, or_false] at hx
    rcases hx with rfl | rfl | rfl <;> rfl
  · decide
  · clear hA; intro S L s A hA Q E F ret
    (refine execsK ?_; intro _ _ _; (with_reducible refine wpAny_Assign_Name ?_ (by with_unfolding_all (intros; rfl))); (with_reducible refine Call_ ?_ (by with_unfolding_all (intros; rfl))); refine nameK C F (by rfl) ?_; refine callWith_K C.X (by rfl) ?_; (with_reducible refine wpAny_items_cons ?_ (by with_unfolding_all (intros; rfl))); refine nameL F (by first | rfl | assumption) ?_; (with_reducible refine wpAny_items_cons ?_ (by with_unfolding_all (intros; rfl))); refine nameL F (by first | rfl | assumption) ?_; (with_reducible refine wpAny_items_cons ?_ (by with_unfolding_all (intros; rfl))); refine nameL F (by first | rfl | assumption) ?_; (with_reducible refine wpAny_items_nil ?_); refine inAnd C F ?_)
    refine Fs.calls0 (line_ok C (hA.mono (by decide)) hr O D V) F ?_
    clear F; intro s G1 v le1 F hv
    replace hr := hr.mono le1; replace D := D.mono le1
    (refine storeL F ?_; clear F; intro s F; (with_reducible refine next_ (by assumption) ?_); refine execsK ?_; intro _ _ _)
    rcases hv with ⟨hn, rfl⟩ | ⟨f, l, y, u1, u2, hx, rfl, hy⟩
    · (refine wpAny_If ?_; (with_reducible refine wpAny_isTrue_Compare1 ?_ (by with_unfolding_all (intros; rfl))); refine nameL F (by first | rfl | assumption) ?_; (with_reducible refine wpAny_Constant_none ?_); (with_reducible refine is_none ?_); (with_reducible refine wpAny_truthy_bool ?_))
      refine ifT ?_
      (refine execsK ?_; intro _ _ _; (with_reducible refine wpAny_Return_some ?_); (with_reducible refine wpAny_Constant_none ?_); (with_reducible refine rt_ (by assumption) ?_); (with_reducible refine rt_ (by assumption) ?_))
      repeat (with_reducible first | refine rt_ (by assumption) ?_ | refine fo_ (by assumption) ?_ | refine lp_r (by assumption) ?_)
      exact ret s _ _ _ [] [] _ F le1 rfl ⟨none, .inl ⟨rfl, rfl⟩, .inl ⟨rfl, hn⟩⟩
    · (refine wpAny_If ?_; (with_reducible refine wpAny_isTrue_Compare1 ?_ (by with_unfolding_all (intros; rfl))); refine nameL F (by first | rfl | assumption) ?_; (with_reducible refine wpAny_Constant_none ?_); (with_reducible refine is_none ?_); (with_reducible refine wpAny_truthy_bool ?_))
      refine ifF ?_
      ((with_reducible refine wpAny_execs_nil ?_); (with_reducible refine next_ (by assumption) ?_); refine execsK ?_; intro _ _ _; refine Assign_Tuple_swapped ?_ (by rfl) (by rfl); (with_reducible refine tupR ?_); (with_reducible refine wpAny_items_cons ?_ (by with_unfolding_all (intros; rfl))); refine nameL F (by first | rfl | assumption) ?_; (with_reducible refine wpAny_items_cons ?_ (by with_unfolding_all (intros; rfl))); (with_reducible refine wpAny_BinOp ?_); refine nameL F (by first | rfl | assumption) ?_; (with_reducible refine constI F ?_); clear F; intro t s F; (with_reducible refine addI F ?_); clear F; intro t s F; (with_reducible refine wpAny_items_nil ?_))
      refine tup_end F ?_
      clear F; intro p1 s G2 le2 hp1 F
      replace hr := hr.mono le2; replace D := D.mono le2; replace hy := hy.mono le2
      skip
      refine unpackIT hA.handled F ⟨_, hp1⟩ (by rfl) ?_
      clear F; intro s F
      (refine inOrder_cons ?_; (with_reducible refine bindName_ ?_); refine storeL F ?_; clear F; intro s F; refine inOrder_cons ?_; (with_reducible refine bindName_ ?_); refine storeL F ?_; clear F; intro s F; refine inOrder_nil ?_; (with_reducible refine next_ (by assumption) ?_); refine execsK ?_; intro _ _ _)
      let J : Nat → Nm → Nm → View → Mu → Prop := fun k m cm G' mu => E3 fun lo tl th => A9 (m "plain_rows" = some (.ref pl)) (m "cover" = some (.ref d)) (m "line" = some (.ref y)) (m "low" = some (.int lo tl)) (m "high" = some (.int (a + 1) th)) (lo ≤ a) ((∀ z, lo ≤ z → z < a + 1 → ln rows z = some (f, l))) (k = lo.toNat) (mu = [])
      let Y : Nat → Nm → Nm → View → Mu → Prop := fun k m cm G' mu => J k m cm G' mu ∧ ln rows ((k : Int) - 1) = some (f, l)
      let N : Nat → Nm → Nm → View → Mu → Prop := fun k m cm G' mu => J k m cm G' mu ∧ ln rows ((k : Int) - 1) ≠ some (f, l)
      have a0 := ln_lim O hx
      refine whileT F J Y N a.toNat ⟨a, _, _, rfl, rfl, rfl, rfl, rfl, Int.le_refl _, fun z h1 h2 => (by rw [show z = a by lia]; exact hx), rfl, rfl⟩ ?_ ?_ ?_
      · clear F
        rintro k m₁ cm₁ G₁ mu₁ s E₁ le ⟨lo, tl, th, mp, mc, ml, mo, mh, h1, h2, rfl, rfl⟩ F
        have lo0 := ln_lim O (h2 lo (Int.le_refl _) (by lia))
        ((with_reducible refine wpAny_isTrue_Compare1 ?_ (by with_unfolding_all (intros; rfl))); (with_reducible refine Call_ ?_ (by with_unfolding_all (intros; rfl))); refine nameK C F (by rfl) ?_; refine callWith_K C.X (by rfl) ?_; (with_reducible refine wpAny_items_cons ?_ (by with_unfolding_all (intros; rfl))); refine nameL F (by first | rfl | assumption) ?_; (with_reducible refine wpAny_items_cons ?_ (by with_unfolding_all (intros; rfl))); refine nameL F (by first | rfl | assumption) ?_; (with_reducible refine wpAny_items_cons ?_ (by with_unfolding_all (intros; rfl))); (with_reducible refine wpAny_BinOp ?_); refine nameL F (by first | rfl | assumption) ?_; (with_reducible refine constI F ?_); clear F; intro t s F; (with_reducible refine subI F ?_); clear F; intro t s F; (with_reducible refine wpAny_items_nil ?_); refine inAnd C F ?_)
        refine Fs.calls0 (line_ok C (hA.mono (by decide)) (hr.mono le) O (D.mono le) V) F ?_
        clear F; intro s G3 v le3 F hv
        (refine nameL F (by first | rfl | assumption) ?_)
        refine eqOT hA F hv (hy.mono (le.trans le3)) ?_
        ((with_reducible refine wpAny_truthy_bool ?_))
        refine ⟨G3, [], le3, F, fun e => ⟨⟨lo, _, _, mp, mc, ml, mo, mh, h1, h2, rfl, rfl⟩, ?_⟩, fun e => ⟨⟨lo, _, _, mp, mc, ml, mo, mh, h1, h2, rfl, rfl⟩, ?_⟩⟩
        · rw [show ((lo.toNat : Nat) : Int) = lo by lia]; exact of_decide_eq_true e
        · rw [show ((lo.toNat : Nat) : Int) = lo by lia]; exact of_decide_eq_false e
      · clear F
        rintro k m₁ cm₁ G₁ mu₁ s E₁ le ⟨⟨lo, tl, th, mp, mc, ml, mo, mh, h1, h2, rfl, rfl⟩, hq⟩ F
        intro _ _
        have lo0 := ln_lim O (h2 lo (Int.le_refl _) (by lia))
        rw [show ((lo.toNat : Nat) : Int) = lo by lia] at hq
        (refine execsK ?_; intro _ _ _; (with_reducible refine wpAny_Assign_Name ?_ (by with_unfolding_all (intros; rfl))); (with_reducible refine wpAny_BinOp ?_); refine nameL F (by first | rfl | assumption) ?_; (with_reducible refine constI F ?_); clear F; intro t s F; (with_reducible refine subI F ?_); clear F; intro t s F; refine storeL F ?_; clear F; intro s F; (with_reducible refine next_ (by assumption) ?_); (with_reducible refine wpAny_execs_nil ?_); (with_reducible refine lp_n (by assumption) ?_))
        refine ⟨(lo - 1).toNat, _, _, _, [], by lia, Le.refl _, F, lo - 1, _, _, mp, mc, ml, rfl, mh, by lia, fun z h3 h4 => ?_, rfl, rfl⟩
        by_cases e : z = lo - 1
        · rw [e]; exact hq
        · exact h2 z (by lia) h4
      · clear F
        rintro k m₁ cm₁ G₁ mu₁ s le ⟨⟨lo, tl, th, mp, mc, ml, mo, mh, h1, h2, rfl, rfl⟩, hq⟩ F
        have lo0 := ln_lim O (h2 lo (Int.le_refl _) (by lia))
        rw [show ((lo.toNat : Nat) : Int) = lo by lia] at hq
        replace hr := hr.mono le; replace D := D.mono le; replace hy := hy.mono le
        ((with_reducible refine next_ (by assumption) ?_); refine execsK ?_; intro _ _ _)
        let J : Nat → Nm → Nm → View → Mu → Prop := fun k m cm G' mu => E2 fun hi th => A10 (m "plain_rows" = some (.ref pl)) (m "cover" = some (.ref d)) (m "line" = some (.ref y)) (m "low" = some (.int lo tl)) (m "high" = some (.int hi th)) (a < hi) (hi ≤ 2500) ((∀ z, lo ≤ z → z < hi → ln rows z = some (f, l))) (k = (3000 - hi).toNat) (mu = [])
        let Y : Nat → Nm → Nm → View → Mu → Prop := fun k m cm G' mu => J k m cm G' mu ∧ ln rows (3000 - (k : Int)) = some (f, l)
        let N : Nat → Nm → Nm → View → Mu → Prop := fun k m cm G' mu => J k m cm G' mu ∧ ln rows (3000 - (k : Int)) ≠ some (f, l)
        refine whileT F J Y N (3000 - (a + 1)).toNat ⟨a + 1, _, mp, mc, ml, mo, mh, by lia, by lia, h2, rfl, rfl⟩ ?_ ?_ ?_
        · clear F mp mc ml mo mh
          rintro k m₁ cm₁ G₂ mu₁ s E₁ le' ⟨hi, th, mp, mc, ml, mo, mh, h3, h4, h5, rfl, rfl⟩ F
          ((with_reducible refine wpAny_isTrue_Compare1 ?_ (by with_unfolding_all (intros; rfl))); (with_reducible refine Call_ ?_ (by with_unfolding_all (intros; rfl))); refine nameK C F (by rfl) ?_; refine callWith_K C.X (by rfl) ?_; (with_reducible refine wpAny_items_cons ?_ (by with_unfolding_all (intros; rfl))); refine nameL F (by first | rfl | assumption) ?_; (with_reducible refine wpAny_items_cons ?_ (by with_unfolding_all (intros; rfl))); refine nameL F (by first | rfl | assumption) ?_; (with_reducible refine wpAny_items_cons ?_ (by with_unfolding_all (intros; rfl))); refine nameL F (by first | rfl | assumption) ?_; (with_reducible refine wpAny_items_nil ?_); refine inAnd C F ?_)
          refine Fs.calls0 (line_ok C (hA.mono (by decide)) (hr.mono le') O (D.mono le') V) F ?_
          clear F; intro s G3 v le3 F hv
          (refine nameL F (by first | rfl | assumption) ?_)
          refine eqOT hA F hv (hy.mono (le'.trans le3)) ?_
          ((with_reducible refine wpAny_truthy_bool ?_))
          refine ⟨G3, [], le3, F, fun e => ⟨⟨hi, _, mp, mc, ml, mo, mh, h3, h4, h5, rfl, rfl⟩, ?_⟩, fun e => ⟨⟨hi, _, mp, mc, ml, mo, mh, h3, h4, h5, rfl, rfl⟩, ?_⟩⟩
          · rw [show (3000 : Int) - (((3000 - hi).toNat : Nat) : Int) = hi by lia]; exact of_decide_eq_true e
          · rw [show (3000 : Int) - (((3000 - hi).toNat : Nat) : Int) = hi by lia]; exact of_decide_eq_false e
        · clear F mp mc ml mo mh
          rintro k m₁ cm₁ G₂ mu₁ s E₁ le' ⟨⟨hi, th, mp, mc, ml, mo, mh, h3, h4, h5, rfl, rfl⟩, hq'⟩ F
          intro _ _
          rw [show (3000 : Int) - (((3000 - hi).toNat : Nat) : Int) = hi by lia] at hq'
          have hi0 := ln_lim O hq'
          (refine execsK ?_; intro _ _ _; (with_reducible refine wpAny_Assign_Name ?_ (by with_unfolding_all (intros; rfl))); (with_reducible refine wpAny_BinOp ?_); refine nameL F (by first | rfl | assumption) ?_; (with_reducible refine constI F ?_); clear F; intro t s F; (with_reducible refine addI F ?_); clear F; intro t s F; refine storeL F ?_; clear F; intro s F; (with_reducible refine next_ (by assumption) ?_); (with_reducible refine wpAny_execs_nil ?_); (with_reducible refine lp_n (by assumption) ?_))
          refine ⟨(3000 - (hi + 1)).toNat, _, _, _, [], by lia, Le.refl _, F, hi + 1, _, mp, mc, ml, mo, rfl, by lia, by lia, fun z h6 h7 => ?_, rfl, rfl⟩
          by_cases e : z = hi
          · rw [e]; exact hq'
          · exact h5 z h6 (by lia)
        · clear F mp mc ml mo mh
          rintro k m₁ cm₁ G₂ mu₁ s le' ⟨⟨hi, th, mp, mc, ml, mo, mh, h3, h4, h5, rfl, rfl⟩, hq'⟩ F
          rw [show (3000 : Int) - (((3000 - hi).toNat : Nat) : Int) = hi by lia] at hq'
          ((with_reducible refine next_ (by assumption) ?_); refine execsK ?_; intro _ _ _; (with_reducible refine wpAny_Return_some ?_); (with_reducible refine tupR ?_); (with_reducible refine wpAny_items_cons ?_ (by with_unfolding_all (intros; rfl))); refine nameL F (by first | rfl | assumption) ?_; (with_reducible refine wpAny_items_cons ?_ (by with_unfolding_all (intros; rfl))); refine nameL F (by first | rfl | assumption) ?_; (with_reducible refine wpAny_items_nil ?_))
          refine tup_end F ?_
          clear F; intro p3 s G4 le4 hp3 F
          repeat (with_reducible first | refine rt_ (by assumption) ?_ | refine fo_ (by assumption) ?_ | refine lp_r (by assumption) ?_)
          exact ret s _ _ _ [] [] _ F ((((le1.trans le2).trans le).trans le').trans le4) rfl ⟨some (lo, hi), .inr ⟨_, _, p3, _, _, rfl, rfl, _, hp3⟩, .inr ⟨lo, hi, _, rfl, hx, h1, h3, h5, hq, hq'⟩⟩
end
end

/-! F19 -/
section
/-- the first address of a row's code -/
def Starts (rows : List Row) (a : Int) : Prop := ∃ i r, InRow rows i a ∧ rows[i]? = some r ∧ r.addr = a
theorem starts_iff {many : Int} {rows : List Row} (O : RowsOk many rows) {i : Nat} {a : Int} (h : InRow rows i a) : Starts rows a ↔ ¬ InRow rows i (a - 1) := by
  obtain ⟨r, t, h1, h2, h3, h4, h5⟩ := id h
  constructor
  · rintro ⟨j, r', hj, hr', e⟩ ⟨r2, t2, e1, e2, e3, e4, e5⟩
    have := O.apart _ _ _ hj h
    subst this
    rw [hr'] at e1; cases e1; omega
  · intro hn
    refine ⟨i, r, h, h1, ?_⟩
    by_cases q : r.addr = a
    · exact q
    · exact absurd ⟨r, t, h1, h2, h3, by omega, by omega⟩ hn
section
variable {w : World} {T : Heap} {A : Around} {G : View} {rows : List Row} {many : Int}
set_option pp.deepTerms false
set_option pp.deepTerms.threshold 3
set_option pp.maxSteps 1500
theorem starts_ok {d : Addr} {kvs : List (Int × Value)} (C : Cx (KK w) T) (hA : Ok A 3) (O : RowsOk many rows) (D : DAt PR w G d kvs) (V : CovOf rows rows.length kvs) (hz : kvs.length ≤ 108) :
    Calls PR w T A (.ref 172) [.ref d] G [] (fun G' _ v => ∃ xs, IntsIs G' v xs ∧ AscSet xs (Starts rows) ∧ xs.length ≤ 108) := by
  refine Calls.of_def C (binds := [("cover", .ref d)]) hA (by with_unfolding_all rfl) (by with_unfolding_all rfl) (by with_unfolding_all rfl) ?_ ?_ ?_
  · intro n x hx
    right
    simp only [List.mem_cons, List.not_mem_nil, or_false] at hx
    rcases hx with rfl <;> exact ⟨rfl, rfl⟩
  · decide
  · clear hA; intro S L s A hA Q E F ret
    (refine execsK ?_; intro _ _ _)
    ((with_reducible refine wpAny_Return_some ?_))
    refine compE (cl := [("cover", L + 1)]) (by rfl) (by rfl) (by decide) ?_
    ((with_reducible refine Call_ ?_ (by with_unfolding_all (intros; rfl))); refine nameB C F (by rfl) (by first | with_reducible exact PySem.boot_len | with_reducible exact PyProof.Rows.boot_range | with_reducible exact PyProof.Rows.boot_sorted | with_reducible exact PyProof.Rows.boot_list | with_reducible exact PyProof.Rows.boot_enumerate) (by decide) ?_; (with_reducible refine PyProof.Rows.callWith_builtin1 ?_ (by with_unfolding_all (intros; rfl)) (by with_unfolding_all (intros; rfl))); (with_reducible refine wpAny_items_cons ?_ (by with_unfolding_all (intros; rfl))); refine nameC F (by first | rfl | assumption) ?_; (with_reducible refine wpAny_items_nil ?_))
    refine sortedDict hA.handled F D (by omega) ?_
    clear F; intro a s G1 us xs le1 hus hints hpm hso F
    have hnd : (kvs.map (·.1)).Nodup := by
      obtain ⟨_, o, _, h⟩ := D
      obtain ⟨_, _, _, _, _, _, h⟩ := h
      exact h
    replace D := D.mono le1
    have hasc := asc_of hpm hso hnd
    have hxl : xs.length = kvs.length := by have := hpm.length_eq; rwa [List.length_map] at this
    have hul := hints.length
    let J : Nat → Nm → View → List Value → Prop := fun i m G' ys => ∃ zs : List Int, IntsAre ys zs ∧ zs.Sublist (xs.take i) ∧ ∀ z, z ∈ zs ↔ z ∈ xs.take i ∧ Starts rows z
    refine compLe hA.handled F hus (by omega) (fun _ _ _ _ _ _ _ _ q => goName q) (by rfl) (by decide) (fun n c h => by rw [List.mem_singleton.mp h]; exact (List.Mem.head [] : _ ∈ [(("cover" : PySem.Str), L + 1)])) (by simp) J ⟨[], .nil, List.nil_sublist _, fun z => by simp⟩ ?_ ?_
    · clear F
      intro i v C' b' m₁ G₁ mu₁ ys s E₁ hv le J₁ hT F
      obtain ⟨zs, hz1, hz2, hz3⟩ := J₁
      obtain ⟨n, t3, rfl, hn⟩ := hints.at i v hv
      have hnk : n ∈ kvs.map (·.1) := hpm.mem_iff.mp (List.mem_of_getElem? hn)
      obtain ⟨v, hvn⟩ := valueAt_some hnk
      obtain ⟨k, tk, hk, rfl, hin⟩ := V.at hvn
      have htk : xs.take (i + 1) = xs.take i ++ [n] := by rw [List.take_add_one, hn]; rfl
      replace D := D.mono le
      have hst := starts_iff O hin
      have put : Starts rows n → ∃ zs' : List Int, IntsAre (ys ++ [.int n t3]) zs' ∧ zs'.Sublist (xs.take (i + 1)) ∧ ∀ z, z ∈ zs' ↔ z ∈ xs.take (i + 1) ∧ Starts rows z := fun hs => by
        refine ⟨zs ++ [n], intsApp hz1 (.cons _ _ .nil), by rw [htk]; exact hz2.append (List.Sublist.refl _), fun z => ?_⟩
        rw [htk, List.mem_append, List.mem_append, hz3, List.mem_singleton]
        constructor
        · rintro (h | rfl)
          · exact ⟨.inl h.1, h.2⟩
          · exact ⟨.inr rfl, hs⟩
        · rintro ⟨h | rfl, h2⟩
          · exact .inl ⟨h, h2⟩
          · exact .inr rfl
      have skip : ¬ Starts rows n → ∃ zs' : List Int, IntsAre ys zs' ∧ zs'.Sublist (xs.take (i + 1)) ∧ ∀ z, z ∈ zs' ↔ z ∈ xs.take (i + 1) ∧ Starts rows z := fun hs => by
        refine ⟨zs, hz1, by rw [htk]; exact hz2.trans (List.sublist_append_left _ _), fun z => ?_⟩
        rw [htk, List.mem_append, hz3, List.mem_singleton]
        constructor
        · exact fun h => ⟨.inl h.1, h.2⟩
        · rintro ⟨h | rfl, h2⟩
          · exact ⟨h, h2⟩
          · exact absurd h2 hs
      ((with_reducible refine asgName ?_); refine storeL F ?_; clear F; intro s F)
      refine wpAny_tests_one ?_
      ((with_reducible refine wpAny_isTrue_Compare1 ?_ (by with_unfolding_all (intros; rfl))); (with_reducible refine MethodCall_ ?_ (by with_unfolding_all (intros; rfl))); refine nameC F (by first | rfl | assumption) ?_)
      refine methGet (prog := PR) (w := w) F D ?_
      ((with_reducible refine callWith_method1 ?_ (by with_unfolding_all (intros; rfl)) (by with_unfolding_all (intros; rfl))); (with_reducible refine wpAny_items_cons ?_ (by with_unfolding_all (intros; rfl))); (with_reducible refine wpAny_BinOp ?_); refine nameL F (by first | rfl | assumption) ?_; (with_reducible refine constI F ?_); clear F; intro t s F; (with_reducible refine subI F ?_); clear F; intro t s F; (with_reducible refine wpAny_items_cons ?_ (by with_unfolding_all (intros; rfl))); (with_reducible refine wpAny_UnaryOp ?_); (with_reducible refine constI F ?_); clear F; intro t s F; (with_reducible refine negI F ?_); clear F; intro t s F; (with_reducible refine wpAny_items_nil ?_))
      refine callGet (prog := PR) (w := w) F D ?_
      clear F; intro s F
      cases hq : valueAt kvs (n - 1) with
      | none =>
        have hs : Starts rows n := hst.mpr fun h => by
          obtain ⟨v, e⟩ := valueAt_some (V.key _ _ h.lt h)
          rw [hq] at e; cases e
        ((with_reducible refine Subscript_ ?_); refine nameC F (by first | rfl | assumption) ?_; refine nameL F (by first | rfl | assumption) ?_)
        refine itemD (prog := PR) (w := w) F D hvn ?_
        clear F; intro s F
        skip
        refine ne_int ?_
        ((with_reducible refine wpAny_truthy_bool ?_))
        refine splitB (fun hc => ?_) (fun hc => ?_)
        · (refine nameL F (by first | rfl | assumption) ?_)
          refine ⟨_, _, Le.refl _, F, ?_⟩
          exact put hs
        · exact absurd hc (by simp)
      | some v =>
        obtain ⟨j, tj, hj, rfl, hjn⟩ := V.at hq
        ((with_reducible refine Subscript_ ?_); refine nameC F (by first | rfl | assumption) ?_; refine nameL F (by first | rfl | assumption) ?_)
        refine itemD (prog := PR) (w := w) F D hvn ?_
        clear F; intro s F
        skip
        refine ne_int ?_
        ((with_reducible refine wpAny_truthy_bool ?_))
        refine splitB (fun hc => ?_) (fun hc => ?_)
        · (refine nameL F (by first | rfl | assumption) ?_)
          refine ⟨_, _, Le.refl _, F, ?_⟩
          refine put (hst.mpr fun h => ?_)
          have := O.apart _ _ _ hjn h
          subst this
          simp at hc
        · refine ⟨_, _, Le.refl _, F, ?_⟩
          refine skip fun h => hst.mp h ?_
          have hc : j = k := by simp at hc; omega
          rw [← hc]; exact hjn
    · clear F
      intro D' m' G₁ G₂ ys s le J' le' hD F
      obtain ⟨zs, hz1, hz2, hz3⟩ := J'
      have htl : xs.take us.length = xs := by rw [hul]; exact List.take_length
      rw [htl] at hz2 hz3
      repeat (with_reducible first | refine rt_ (by assumption) ?_ | refine fo_ (by assumption) ?_ | refine lp_r (by assumption) ?_)
      refine ret s _ _ _ [] [] _ F ((le1.trans le).trans le') rfl ⟨zs, ⟨D', ys, rfl, hD, hz1⟩, ⟨hasc.sublist hz2, fun z => ?_⟩, by have := hz2.length_le; omega⟩
      rw [hz3]
      constructor
      · exact fun h => h.2
      · intro h
        obtain ⟨i, r, h1, h2, h3⟩ := id h
        exact ⟨hpm.mem_iff.mpr (V.key _ _ h1.lt h1), h⟩
end
end

/-! F20 -/
section
/-- statements of a line of a file lie at an address -/
def StmtAt (rows : List Row) (f l a : Int) : Prop := ∃ i r, InRow rows i a ∧ rows[i]? = some r ∧ (r.file = f ∧ r.line = l) ∧ r.stmt = true
def LowAt (rows : List Row) (a lo : Int) : Prop := ∃ hi, LawSpan rows a (some (lo, hi))
/-- what is gathered of the first k starts, and the low told last -/
def Placed (rows : List Row) (f l : Int) (xs : List Int) : Nat → List Int → Int → Prop
  | 0, g, t => g = [] ∧ t = -1
  | k + 1, g, t => ∃ g' t' a, Placed rows f l xs k g' t' ∧ xs[k]? = some a ∧ ((¬ StmtAt rows f l a ∧ g = g' ∧ t = t') ∨ (StmtAt rows f l a ∧ ∃ lo, LowAt rows a lo ∧ ((lo = t' ∧ g = g' ∧ t = t') ∨ (lo ≠ t' ∧ g = g' ++ [a] ∧ t = lo))))
theorem Placed.len {rows : List Row} {f l : Int} {xs : List Int} : ∀ {k : Nat} {g : List Int} {t : Int}, Placed rows f l xs k g t → g.length ≤ k
  | 0, g, t, h => by rw [h.1]; exact Nat.le_refl _
  | k + 1, g, t, ⟨g', t', a, h, _, h'⟩ => by
    have := h.len
    rcases h' with ⟨_, rfl, _⟩ | ⟨_, lo, _, ⟨_, rfl, _⟩ | ⟨_, rfl, _⟩⟩
    · omega
    · omega
    · simp; omega
section
variable {w : World} {T : Heap} {A : Around} {G : View} {rows : List Row} {many : Int}
set_option pp.deepTerms false
set_option pp.deepTerms.threshold 3
set_option pp.maxSteps 1500
theorem places_ok {pl d : Addr} {kvs : List (Int × Value)} {f l : Int} {tf tl : Tok} (C : Cx (KK w) T) (hA : Ok A 7) (hr : PRows G (.ref pl) rows) (O : RowsOk many rows) (D : DAt PR w G d kvs) (V : CovOf rows rows.length kvs) (hz : kvs.length ≤ 108) :
    Calls PR w T A (.ref 179) [.ref pl, .ref d, .int f tf, .int l tl] G [] (fun G' _ v => ∃ g xs t, IntsIs G' v g ∧ AscSet xs (Starts rows) ∧ Placed rows f l xs xs.length g t) := by
  refine Calls.of_def C (binds := [("plain_rows", .ref pl), ("cover", .ref d), ("file", .int f tf), ("line", .int l tl)]) hA (by with_unfolding_all rfl) (by with_unfolding_all rfl) (by with_unfolding_all rfl) ?_ ?_ ?_
  · intro n x hx
    left
    simp only [List.mem_cons, List.not_mem_nil, or_false] at hx
    rcases hx with rfl | rfl | rfl | rfl <;> rfl
  · decide
  · clear hA; intro S L s A hA Q E F ret
    obtain ⟨pl', pvs, e, hl, hvs⟩ := id hr
    cases e
    have l2 := hvs.len
    have l3 := O.len
    (refine execsK ?_; intro _ _ _; refine Assign_Tuple_swapped ?_ (by rfl) (by rfl); (with_reducible refine tupR ?_); (with_reducible refine wpAny_items_cons ?_ (by with_unfolding_all (intros; rfl))); (with_reducible refine lstR ?_); (with_reducible refine wpAny_items_nil ?_))
    refine lst_endM F ?_
    clear F; intro gl s F
    ((with_reducible refine wpAny_items_cons ?_ (by with_unfolding_all (intros; rfl))); (with_reducible refine wpAny_UnaryOp ?_); (with_reducible refine constI F ?_); clear F; intro t s F; (with_reducible refine negI F ?_); clear F; intro t s F; (with_reducible refine wpAny_items_nil ?_))
    refine tup_end F ?_
    clear F; intro p1 s G1 le1 hp1 F
    skip
    refine unpackIT hA.handled F ⟨_, hp1⟩ (by rfl) ?_
    clear F; intro s F
    (refine inOrder_cons ?_; (with_reducible refine bindName_ ?_); refine storeL F ?_; clear F; intro s F; refine inOrder_cons ?_; (with_reducible refine bindName_ ?_); refine storeL F ?_; clear F; intro s F; refine inOrder_nil ?_; (with_reducible refine next_ (by assumption) ?_); refine execsK ?_; intro _ _ _; (with_reducible refine For_ ?_ (by with_unfolding_all (intros; rfl))); intro _ _; (with_reducible refine Call_ ?_ (by with_unfolding_all (intros; rfl))); refine nameK C F (by rfl) ?_; refine callWith_K C.X (by rfl) ?_; (with_reducible refine wpAny_items_cons ?_ (by with_unfolding_all (intros; rfl))); refine nameL F (by first | rfl | assumption) ?_; (with_reducible refine wpAny_items_nil ?_); refine inAnd C F ?_)
    replace hr := hr.mono le1; replace hl := hl.mono le1; replace hvs := hvs.mono (PRow.mono le1); replace D := D.mono le1
    refine Fs.calls0 (starts_ok C (hA.mono (by decide)) O D V hz) F ?_
    clear F; rintro s G2 _ le2 F ⟨xs, ⟨sl, us, rfl, hus, hints⟩, hasc, hxl⟩
    replace hr := hr.mono le2; replace hl := hl.mono le2; replace hvs := hvs.mono (PRow.mono le2); replace D := D.mono le2
    have hul := hints.length
    skip
    let J : Nat → Nm → Nm → View → Mu → Prop := fun i m cm G' mu => E5 fun vs n g t tt => A9 (mu = [(gl, PySem.W.listOf vs.toArray n)]) (IntsAre vs g) (Placed rows f l xs i g t) (m "plain_rows" = some (.ref pl)) (m "cover" = some (.ref d)) (m "file" = some (.int f tf)) (m "line" = some (.int l tl)) (m "gathered" = some (.ref gl)) (m "told_low" = some (.int t tt))
    refine loopL hA.handled F hus (fun _ _ _ _ _ _ _ _ q => goName q) J ⟨[], _, [], -1, _, rfl, .nil, ⟨rfl, rfl⟩, rfl, rfl, rfl, rfl, rfl, rfl⟩ ?_ ?_
    · clear F
      rintro i v m₁ cm₁ G₁ mu₁ p s E₁ hv le ⟨vs, n, g, tw, tt, rfl, hg, hP, mp, mc, mf, ml, mg, mt⟩ F
      intro _ _
      replace hr := hr.mono le; replace hl := hl.mono le; replace hvs := hvs.mono (PRow.mono le); replace D := D.mono le
      obtain ⟨a, t3, rfl, hn⟩ := hints.at i v hv
      have hil : i < xs.length := (List.getElem?_eq_some_iff.mp hn).1
      obtain ⟨i0, r0, hin0, -, -⟩ := (hasc.2 a).mp (List.mem_of_getElem? hn)
      obtain ⟨cv, hcv⟩ := valueAt_some (V.key _ _ hin0.lt hin0)
      obtain ⟨k, tk, hk, rfl, hin⟩ := V.at hcv
      obtain ⟨va, hva, aa, ta1, ta2, ta3, rfl, hta⟩ := hvs.get' (List.getElem?_eq_getElem hk)
      have stm : StmtAt rows f l a ↔ (rows[k].file = f ∧ rows[k].line = l) ∧ rows[k].stmt = true := by
        constructor
        · rintro ⟨j, r, h1, h2, h3⟩
          have := O.apart _ _ _ h1 hin
          subst this
          rw [List.getElem?_eq_getElem hk] at h2; cases h2; exact h3
        · exact fun h => ⟨k, _, hin, List.getElem?_eq_getElem hk, h⟩
      have hgl := hP.len
      have hgv := hg.length
      ((with_reducible refine asgName ?_); refine storeL F ?_; clear F; intro s F; refine execsK ?_; intro _ _ _; (with_reducible refine wpAny_Assign_Name ?_ (by with_unfolding_all (intros; rfl))); (with_reducible refine Subscript_ ?_); refine nameL F (by first | rfl | assumption) ?_; (with_reducible refine Subscript_ ?_); refine nameL F (by first | rfl | assumption) ?_; refine nameL F (by first | rfl | assumption) ?_)
      refine itemD (prog := PR) (w := w) F D hcv ?_
      clear F; intro s F
      (refine itemLn F (by assumption) (by assumption) (by omega) ?_; refine storeL F ?_; clear F; intro s F; (with_reducible refine next_ (by assumption) ?_); refine execsK ?_; intro _ _ _)
      refine ifS F (fun G' mu' c => Le G₁ G' ∧ mu' = [(gl, PySem.W.listOf vs.toArray n)] ++ [p] ∧ (c = true ↔ StmtAt rows f l a)) ?_ ?_
      · intro E
        ((with_reducible refine wpAny_isTrue_BoolOp ?_); (with_reducible refine wpAny_allTrue_And_cons ?_); (with_reducible refine wpAny_isTrue_Compare1 ?_ (by with_unfolding_all (intros; rfl))); (with_reducible refine Subscript_ ?_); refine nameL F (by first | rfl | assumption) ?_; (with_reducible refine evSlice ?_); (with_reducible refine wpAny_evalPart_some ?_); (with_reducible refine constI F ?_); clear F; intro t s F; (with_reducible refine wpAny_evalPart_some ?_); (with_reducible refine constI F ?_); clear F; intro t s F)
        refine sliceT F hta (.int _ _) (.int _ _) (by simp) ?_
        clear F; intro z s G3 le3 hz F
        ((with_reducible refine tupR ?_); (with_reducible refine wpAny_items_cons ?_ (by with_unfolding_all (intros; rfl))); refine nameL F (by first | rfl | assumption) ?_; (with_reducible refine wpAny_items_cons ?_ (by with_unfolding_all (intros; rfl))); refine nameL F (by first | rfl | assumption) ?_; (with_reducible refine wpAny_items_nil ?_))
        refine tup_end F ?_
        clear F; intro p2 s G4 le4 hp2 F
        replace hta := hta.mono (le3.trans le4)
        have hz2 : TupAt G4 z [.int rows[k].file ta2, .int rows[k].line ta3] := TupAt.mono hz le4
        refine eqTT hA F hz2 (.cons _ _ (.cons _ _ .nil)) ⟨_, hp2⟩ (.cons _ _ (.cons _ _ .nil)) ?_
        ((with_reducible refine wpAny_truthy_bool ?_))
        refine splitB (fun hc => ?_) (fun hc => ?_)
        · have hc : rows[k].file = f ∧ rows[k].line = l := by simpa using hc
          ((with_reducible refine wpAny_allTrue_And_cons ?_); (with_reducible refine wpAny_isTrue_value ?_ (by with_unfolding_all (intros; rfl))); (with_reducible refine Subscript_ ?_); refine nameL F (by first | rfl | assumption) ?_; (with_reducible refine constI F ?_); clear F; intro t s F; refine itemT (F.f.tup (by assumption)) (by decide) (by decide) (by rfl) ?_; (with_reducible refine wpAny_truthy_bool ?_))
          cases hstm : rows[k].stmt with
          | true =>
            ((with_reducible refine ifT ?_); (with_reducible refine wpAny_allTrue_And_nil ?_))
            exact ⟨G4, _, le3.trans le4, F, le3.trans le4, rfl, by rw [stm]; simp [hc, hstm]⟩
          | false =>
            ((with_reducible refine ifF ?_))
            exact ⟨G4, _, le3.trans le4, F, le3.trans le4, rfl, by rw [stm]; simp [hc, hstm]⟩
        · have hc : ¬ (rows[k].file = f ∧ rows[k].line = l) := by simpa using hc
          exact ⟨G4, _, le3.trans le4, F, le3.trans le4, rfl, by rw [stm]; simp [hc]⟩
      clear F
      rintro c G3 _ s le3 F ⟨-, rfl, hc⟩
      refine splitB (fun hd => ?_) (fun hd => ?_)
      · have hst := hc.mp hd
        replace hr := hr.mono le3; replace D := D.mono le3
        (refine execsK ?_; intro _ _ _; (with_reducible refine wpAny_Assign_Name ?_ (by with_unfolding_all (intros; rfl))); (with_reducible refine Subscript_ ?_); (with_reducible refine Call_ ?_ (by with_unfolding_all (intros; rfl))); refine nameK C F (by rfl) ?_; refine callWith_K C.X (by rfl) ?_; (with_reducible refine wpAny_items_cons ?_ (by with_unfolding_all (intros; rfl))); refine nameL F (by first | rfl | assumption) ?_; (with_reducible refine wpAny_items_cons ?_ (by with_unfolding_all (intros; rfl))); refine nameL F (by first | rfl | assumption) ?_; (with_reducible refine wpAny_items_cons ?_ (by with_unfolding_all (intros; rfl))); refine nameL F (by first | rfl | assumption) ?_; (with_reducible refine wpAny_items_nil ?_); refine inAnd C F ?_)
        refine Fs.calls0 (span_ok C (hA.mono (by decide)) hr O D V) F ?_
        clear F; rintro s G4 sv le4 F ⟨r, hv, hls⟩
        rcases hv with ⟨rfl, rfl⟩ | ⟨lo, hi, ta, u1, u2, rfl, rfl, hta2⟩
        · exfalso
          rcases hls with ⟨-, hls⟩ | ⟨_, _, _, hls, -⟩
          · rw [ln_in O hin (List.getElem?_eq_getElem hk)] at hls; cases hls
          · cases hls
        have hlo : LowAt rows a lo := ⟨hi, hls⟩
        ((with_reducible refine constI F ?_); clear F; intro t s F; refine itemT (F.f.tup (by assumption)) (by decide) (by decide) (by rfl) ?_; refine storeL F ?_; clear F; intro s F; (with_reducible refine next_ (by assumption) ?_); refine execsK ?_; intro _ _ _)
        refine ifS F (fun G' mu' c => G' = G4 ∧ mu' = [(gl, PySem.W.listOf vs.toArray n)] ++ [p] ∧ (c = true ↔ lo ≠ tw)) ?_ ?_
        · intro E
          ((with_reducible refine wpAny_isTrue_Compare1 ?_ (by with_unfolding_all (intros; rfl))); refine nameL F (by first | rfl | assumption) ?_; refine nameL F (by first | rfl | assumption) ?_; (with_reducible refine ne_int ?_); (with_reducible refine wpAny_truthy_bool ?_))
          exact ⟨G4, _, Le.refl _, F, rfl, rfl, by simp⟩
        clear F
        rintro c _ _ s le5 F ⟨rfl, rfl, hc⟩
        refine splitB (fun hd => ?_) (fun hd => ?_)
        · (refine execsK ?_; intro _ _ _; (with_reducible refine wpAny_Expr ?_ (by with_unfolding_all (intros; rfl)) (by with_unfolding_all (intros; rfl))); (with_reducible refine MethodCall_ ?_ (by with_unfolding_all (intros; rfl))); refine nameL F (by first | rfl | assumption) ?_)
          refine methA (pre := []) F ?_
          ((with_reducible refine callWith_method1 ?_ (by with_unfolding_all (intros; rfl)) (by with_unfolding_all (intros; rfl))); (with_reducible refine wpAny_items_cons ?_ (by with_unfolding_all (intros; rfl))); refine nameL F (by first | rfl | assumption) ?_; (with_reducible refine wpAny_items_nil ?_))
          refine appendM (pre := []) F (by omega) ?_
          clear F; intro s F
          ((with_reducible refine next_ (by assumption) ?_); refine execsK ?_; intro _ _ _; (with_reducible refine wpAny_Assign_Name ?_ (by with_unfolding_all (intros; rfl))); refine nameL F (by first | rfl | assumption) ?_; refine storeL F ?_; clear F; intro s F; (with_reducible refine next_ (by assumption) ?_); (with_reducible refine wpAny_execs_nil ?_); (with_reducible refine next_ (by assumption) ?_); (with_reducible refine wpAny_execs_nil ?_); (with_reducible refine next_ (by assumption) ?_); (with_reducible refine wpAny_execs_nil ?_); (with_reducible refine lp_n (by assumption) ?_))
          exact ⟨_, _, _, [(gl, _)], le3.trans le4, F, vs ++ [.int a t3], _, g ++ [a], lo, _, rfl, intsApp hg (.cons _ _ .nil), ⟨g, tw, a, hP, hn, .inr ⟨hst, lo, hlo, .inr ⟨hc.mp hd, rfl, rfl⟩⟩⟩, mp, mc, mf, ml, mg, rfl⟩
        · have he : lo = tw := by
            rw [hd] at hc
            exact Decidable.byContradiction fun h => absurd (hc.mpr h) (by simp)
          ((with_reducible refine wpAny_execs_nil ?_); (with_reducible refine next_ (by assumption) ?_); (with_reducible refine wpAny_execs_nil ?_); (with_reducible refine next_ (by assumption) ?_); (with_reducible refine wpAny_execs_nil ?_); (with_reducible refine lp_n (by assumption) ?_))
          exact ⟨_, _, _, [(gl, _)], le3.trans le4, F, vs, _, g, tw, _, rfl, hg, ⟨g, tw, a, hP, hn, .inr ⟨hst, lo, hlo, .inl ⟨he, rfl, rfl⟩⟩⟩, mp, mc, mf, ml, mg, mt⟩
      · ((with_reducible refine wpAny_execs_nil ?_); (with_reducible refine next_ (by assumption) ?_); (with_reducible refine wpAny_execs_nil ?_); (with_reducible refine lp_n (by assumption) ?_))
        refine ⟨_, _, _, [(gl, _)], le3, F, vs, _, g, tw, _, rfl, hg, ⟨g, tw, a, hP, hn, .inl ⟨fun h => ?_, rfl, rfl⟩⟩, mp, mc, mf, ml, mg, mt⟩
        have := hc.mpr h
        rw [hd] at this; cases this
    · clear F
      rintro m₁ cm₁ G₁ mu₁ s le ⟨vs, n, g, tw, tt, rfl, hg, hP, mp, mc, mf, ml, mg, mt⟩ F
      ((with_reducible refine fo_ (by assumption) ?_); (with_reducible refine next_ (by assumption) ?_); refine execsK ?_; intro _ _ _; (with_reducible refine wpAny_Return_some ?_); refine nameL F (by first | rfl | assumption) ?_; (with_reducible refine rt_ (by assumption) ?_))
      have M := F.f.mfr (gl, PySem.W.listOf vs.toArray n) (.head _)
      obtain ⟨F', le'⟩ := F.f.freeze (M.resolve_left (fun h => nomatch h)) (fun h => nomatch h)
      rw [hul] at hP
      repeat (with_reducible first | refine rt_ (by assumption) ?_ | refine fo_ (by assumption) ?_ | refine lp_r (by assumption) ?_)
      exact ret s _ _ _ [] [] _ ⟨F', F.r⟩ (((le1.trans le2).trans le).trans le') rfl ⟨g, xs, tw, ⟨gl, vs, rfl, ⟨_, ext_self .., rfl, _, rfl⟩, hg⟩, hasc, hP⟩
end
end

/-! P2 -/
section
section
variable {many : Int} {rows : List Row} {sps : List Sp}
theorem spAt_some {i : Nat} {p : Sp} (h : spAt? rows i = some p) : ∃ r t, rows[i]? = some r ∧ rows[i + 1]? = some t ∧ r.fin = false ∧ r.addr < t.addr ∧ p = ⟨r.addr, t.addr, i⟩ := by
  unfold spAt? at h
  cases h1 : rows[i]? with
  | none => rw [h1] at h; simp at h
  | some r =>
    cases h2 : rows[i + 1]? with
    | none => rw [h1, h2] at h; simp at h
    | some t =>
      rw [h1, h2] at h
      simp only at h
      split at h
      · rename_i hc
        cases h
        exact ⟨r, t, rfl, rfl, hc.1, hc.2, rfl⟩
      · cases h
theorem spAt_in {i : Nat} {a : Int} (h : InRow rows i a) : ∃ p, spAt? rows i = some p ∧ p.at_ = i ∧ p.lo ≤ a ∧ a < p.hi := by
  obtain ⟨r, t, h1, h2, h3, h4, h5⟩ := h
  refine ⟨⟨r.addr, t.addr, i⟩, ?_, rfl, h4, h5⟩
  unfold spAt?
  rw [h1, h2]
  simp only
  rw [if_pos ⟨h3, by lia⟩]
theorem raw_in {n : Nat} {p : Sp} (hp : p ∈ spsRaw rows n) {a : Int} (h1 : p.lo ≤ a) (h2 : a < p.hi) : InRow rows p.at_ a := by
  obtain ⟨r, t, e1, e2, e3, e4, e5⟩ := spAt_some (spsRaw_mem.mp hp).2
  rw [e5] at h1 h2
  exact ⟨r, t, e1, e2, e3, h1, h2⟩
theorem raw_room {n : Nat} {p : Sp} (hp : p ∈ spsRaw rows n) : p.lo < p.hi := by
  obtain ⟨r, t, e1, e2, e3, e4, e5⟩ := spAt_some (spsRaw_mem.mp hp).2
  rw [e5]; exact e4
theorem raw_eq (O : RowsOk many rows) {n : Nat} {p q : Sp} (hp : p ∈ spsRaw rows n) (hq : q ∈ spsRaw rows n) {a : Int} (h1 : p.lo ≤ a) (h2 : a < p.hi) (h3 : q.lo ≤ a) (h4 : a < q.hi) : p = q := by
  have := O.apart _ _ _ (raw_in hp h1 h2) (raw_in hq h3 h4)
  have e1 := (spsRaw_mem.mp hp).2
  have e2 := (spsRaw_mem.mp hq).2
  rw [this, e2] at e1
  exact (Option.some.inj e1).symm
theorem raw_uni (O : RowsOk many rows) : ∀ p ∈ spsRaw rows (rows.length - 1), ∀ q ∈ spsRaw rows (rows.length - 1), p.lo = q.lo → p = q := fun p hp q hq e =>
  raw_eq O hp hq (Int.le_refl _) (raw_room hp) (by lia) (by have := raw_room hq; lia)
theorem raw_asc (n : Nat) : (spsRaw rows n).Pairwise (fun p q => p.at_ < q.at_) := by
  unfold spsRaw
  refine List.Pairwise.filterMap _ (R := (· < ·)) (fun a a' h b hb b' hb' => ?_) List.pairwise_lt_range
  obtain ⟨r, t, e1, e2, e3, e4, e5⟩ := spAt_some hb
  obtain ⟨r', t', e1', e2', e3', e4', e5'⟩ := spAt_some hb'
  rw [e5, e5']; exact h
theorem raw_nodup (n : Nat) : (spsRaw rows n).Nodup := by
  unfold List.Nodup
  exact (raw_asc n).imp fun h e => by rw [e] at h; exact Nat.lt_irrefl _ h
section
variable (S : SpsFor rows sps)
include S
theorem sps_mem {p : Sp} : p ∈ sps ↔ p ∈ spsRaw rows (rows.length - 1) := S.1.mem_iff
theorem sps_in {p : Sp} (hp : p ∈ sps) {a : Int} (h1 : p.lo ≤ a) (h2 : a < p.hi) : InRow rows p.at_ a := raw_in ((sps_mem S).mp hp) h1 h2
theorem sps_of {i : Nat} {a : Int} (h : InRow rows i a) : ∃ p ∈ sps, p.at_ = i ∧ p.lo ≤ a ∧ a < p.hi := by
  obtain ⟨p, h1, h2, h3, h4⟩ := spAt_in h
  refine ⟨p, (sps_mem S).mpr (spsRaw_mem.mpr ⟨?_, by rw [h2]; exact h1⟩), h2, h3, h4⟩
  obtain ⟨r, t, e1, e2, -⟩ := h
  have := (List.getElem?_eq_some_iff.mp e2).1
  lia
theorem sps_row {p : Sp} (hp : p ∈ sps) : ∃ r, rows[p.at_]? = some r ∧ r.addr = p.lo ∧ r.fin = false := by
  obtain ⟨r, t, e1, e2, e3, e4, e5⟩ := spAt_some (spsRaw_mem.mp ((sps_mem S).mp hp)).2
  exact ⟨r, e1, by rw [e5], e3⟩
theorem sps_ok (O : RowsOk many rows) : SpsOk sps := by
  refine ⟨fun p hp => raw_room ((sps_mem S).mp hp), fun i j p q hij hi hj => ?_⟩
  have hp := List.mem_of_getElem? hi
  have hq := List.mem_of_getElem? hj
  obtain ⟨li, ei⟩ := List.getElem?_eq_some_iff.mp hi
  obtain ⟨lj, ej⟩ := List.getElem?_eq_some_iff.mp hj
  have hlo := List.pairwise_iff_getElem.mp S.2 i j li lj hij
  rw [ei, ej] at hlo
  have rq := raw_room ((sps_mem S).mp hq)
  by_cases h : p.hi ≤ q.lo
  · exact h
  · exfalso
    have e := raw_eq O ((sps_mem S).mp hp) ((sps_mem S).mp hq) hlo (by lia) (Int.le_refl _) rq
    have nd : sps.Nodup := S.1.nodup_iff.mpr (raw_nodup _)
    have := List.pairwise_iff_getElem.mp nd i j li lj hij
    rw [ei, ej] at this
    exact this e
theorem sps_ln (O : RowsOk many rows) {p : Sp} (hp : p ∈ sps) {r : Row} (hr : rows[p.at_]? = some r) {a : Int} (h1 : p.lo ≤ a) (h2 : a < p.hi) : ln rows a = some (r.file, r.line) := ln_in O (sps_in S hp h1 h2) hr
end
theorem like_iff {p q : Nat} {a b : Sp} {r t : Row} (h1 : sps[p]? = some a) (h2 : sps[q]? = some b) (h3 : rows[a.at_]? = some r) (h4 : rows[b.at_]? = some t) : like rows sps p q = true ↔ a.hi = b.lo ∧ r.file = t.file ∧ r.line = t.line := by
  unfold like
  rw [h1, h2]
  simp only
  rw [h3, h4]
  simp
/-- one answer -/
theorem law_unique {a : Int} {r r' : Option (Int × Int)} (h : LawSpan rows a r) (h' : LawSpan rows a r') : r = r' := by
  rcases h with ⟨rfl, hn⟩ | ⟨lo, hi, x, rfl, hx, h1, h2, h3, h4, h5⟩ <;> rcases h' with ⟨rfl, hn'⟩ | ⟨lo', hi', x', rfl, hx', h1', h2', h3', h4', h5'⟩
  · rfl
  · rw [hn] at hx'; cases hx'
  · rw [hn'] at hx; cases hx
  · rw [hx] at hx'; cases hx'
    have e1 : lo = lo' := by
      rcases Int.lt_trichotomy lo lo' with q | q | q
      · exact absurd (h3 (lo' - 1) (by lia) (by lia)) h4'
      · exact q
      · exact absurd (h3' (lo - 1) (by lia) (by lia)) h4
    have e2 : hi = hi' := by
      rcases Int.lt_trichotomy hi hi' with q | q | q
      · exact absurd (h3' hi (by lia) (by lia)) h5
      · exact q
      · exact absurd (h3 hi' (by lia) (by lia)) h5'
    rw [e1, e2]
theorem span_law (O : RowsOk many rows) (S : SpsFor rows sps) {a : Int} {r : Option (Int × Int)} (h : SpanIs rows sps a r) : LawSpan rows a r := by
  have K := sps_ok S O
  rcases h with ⟨rfl, hno⟩ | ⟨i, l, h, p, pl, ph, rfl, hp, h1, h2, hl, hh, hpl, hph, hrun, hbeg, hend⟩
  · left
    refine ⟨rfl, ln_out fun i hi => ?_⟩
    obtain ⟨q, hq, -, q1, q2⟩ := sps_of S hi
    exact hno q hq ⟨q1, q2⟩
  · right
    have hpm := List.mem_of_getElem? hp
    obtain ⟨r, hr, -, -⟩ := sps_row S hpm
    have key : ∀ (n : Nat) (j : Nat), j = l + n → j ≤ h → ∃ q, sps[j]? = some q ∧ pl.lo ≤ q.lo ∧ (∀ y, pl.lo ≤ y → y < q.hi → ∃ r', rows[q.at_]? = some r' ∧ ln rows y = some (r'.file, r'.line)) := by
      intro n
      induction n with
      | zero =>
        intro j e hj
        have e : j = l := by lia
        subst e
        obtain ⟨r', hr', -, -⟩ := sps_row S (List.mem_of_getElem? hpl)
        exact ⟨pl, hpl, Int.le_refl _, fun y y1 y2 => ⟨r', hr', sps_ln S O (List.mem_of_getElem? hpl) hr' y1 y2⟩⟩
      | succ n ih =>
        intro j e hj
        obtain ⟨q, hq, q1, q2⟩ := ih (l + n) rfl (by lia)
        have hlj : j < sps.length := by
          have := (List.getElem?_eq_some_iff.mp hph).1
          lia
        have hs := hrun (l + n) (by lia) (by lia)
        have hj' : sps[l + n + 1]? = some sps[j] := by rw [show l + n + 1 = j by lia]; exact List.getElem?_eq_getElem hlj
        obtain ⟨r1, hr1, -, -⟩ := sps_row S (List.mem_of_getElem? hq)
        obtain ⟨r2, hr2, -, -⟩ := sps_row S (List.mem_of_getElem? hj')
        obtain ⟨e1, e2, e3⟩ := (like_iff hq hj' hr1 hr2).mp hs
        refine ⟨sps[j], List.getElem?_eq_getElem hlj, ?_, fun y y1 y2 => ⟨r2, hr2, ?_⟩⟩
        · have := K.room q (List.mem_of_getElem? hq); lia
        · by_cases c : y < q.hi
          · obtain ⟨r', hr', hy⟩ := q2 y y1 c
            rw [hr1] at hr'; cases hr'
            rw [hy, e2, e3]
          · exact sps_ln S O (List.mem_of_getElem? hj') hr2 (by lia) y2
    obtain ⟨q, hq, q1, q2⟩ := key (h - l) h (by lia) (Nat.le_refl _)
    rw [hph] at hq; cases hq
    have hall : ∀ y, pl.lo ≤ y → y < ph.hi → ln rows y = some (r.file, r.line) := by
      have hlo := K.lo hl hpl hp
      have hhi : p.hi ≤ ph.hi := by
        rcases Nat.lt_or_ge i h with c | c
        · have := K.ord i h _ _ c hp hph
          have := K.room ph (List.mem_of_getElem? hph)
          lia
        · have : i = h := by lia
          subst this; rw [hp] at hph; cases hph; exact Int.le_refl _
      intro y y1 y2
      obtain ⟨r1, hr1, e1⟩ := q2 y y1 y2
      obtain ⟨r2, hr2, e2⟩ := q2 a (by lia) (by lia)
      rw [hr1] at hr2; cases hr2
      rw [e1, ← e2]
      exact sps_ln S O hpm hr h1 h2
    have hlo := K.lo hl hpl hp
    have hhi : p.hi ≤ ph.hi := by
      rcases Nat.lt_or_ge i h with c | c
      · have := K.ord i h _ _ c hp hph
        have := K.room ph (List.mem_of_getElem? hph)
        lia
      · have : i = h := by lia
        subst this; rw [hp] at hph; cases hph; exact Int.le_refl _
    refine ⟨pl.lo, ph.hi, (r.file, r.line), rfl, hall a (by lia) (by lia), by lia, by lia, hall, fun hx => ?_, fun hx => ?_⟩
    · obtain ⟨k, rk, hin, hrk, ex⟩ := ln_some hx
      obtain ⟨q, hq, qa, c1, c2⟩ := sps_of S hin
      obtain ⟨j, hj⟩ := List.mem_iff_getElem?.mp hq
      have hjl : j < l := by
        rcases Nat.lt_or_ge j l with c | c
        · exact c
        · have := K.lo c hpl hj; lia
      have hl1 : sps[l - 1]? = some (sps[l - 1]'(by have := (List.getElem?_eq_some_iff.mp hpl).1; lia)) := List.getElem?_eq_getElem _
      have o1 := K.ord (l - 1) l _ _ (by lia) hl1 hpl
      have hjl1 : j = l - 1 := by
        rcases Nat.lt_or_ge j (l - 1) with c | c
        · have := K.ord j (l - 1) _ _ c hj hl1
          have := K.room _ (List.mem_of_getElem? hl1)
          lia
        · lia
      subst hjl1
      rw [hj] at hl1
      have := K.ord (l - 1) l _ _ (by lia) hj hpl
      obtain ⟨r2, hr2, -, -⟩ := sps_row S (List.mem_of_getElem? hpl)
      have hln := hall pl.lo (Int.le_refl _) (by have := K.room pl (List.mem_of_getElem? hpl); have := K.room ph (List.mem_of_getElem? hph); lia)
      rw [sps_ln S O (List.mem_of_getElem? hpl) hr2 (Int.le_refl _) (K.room pl (List.mem_of_getElem? hpl))] at hln
      have e2 := Option.some.inj hln
      have hlk := (like_iff hj hpl (by rw [qa]; exact hrk) hr2).mpr ⟨by lia, by
        have := congrArg Prod.fst (ex.symm.trans e2.symm); exact this, by have := congrArg Prod.snd (ex.symm.trans e2.symm); exact this⟩
      rcases hbeg with hb | hb
      · lia
      · rw [hlk] at hb; cases hb
    · obtain ⟨k, rk, hin, hrk, ex⟩ := ln_some hx
      obtain ⟨q, hq, qa, c1, c2⟩ := sps_of S hin
      obtain ⟨j, hj⟩ := List.mem_iff_getElem?.mp hq
      have hjh : h < j := by
        rcases Nat.lt_or_ge h j with c | c
        · exact c
        · rcases Nat.lt_or_ge j h with c' | c'
          · have := K.ord j h _ _ c' hj hph
            have := K.room ph (List.mem_of_getElem? hph)
            lia
          · have : j = h := by lia
            subst this; rw [hph] at hj; cases hj; lia
      have hlen : h + 1 < sps.length := by have := (List.getElem?_eq_some_iff.mp hj).1; lia
      have hh1 : sps[h + 1]? = some sps[h + 1] := List.getElem?_eq_getElem _
      have o1 := K.ord h (h + 1) _ _ (by lia) hph hh1
      have hjl1 : j = h + 1 := by
        rcases Nat.lt_or_ge (h + 1) j with c | c
        · have := K.ord (h + 1) j _ _ c hh1 hj
          have := K.room _ (List.mem_of_getElem? hh1)
          lia
        · lia
      subst hjl1
      have o2 := K.ord h (h + 1) _ _ (by lia) hph hj
      obtain ⟨r2, hr2, -, -⟩ := sps_row S (List.mem_of_getElem? hph)
      have hln := hall (ph.hi - 1) (by have := K.room ph (List.mem_of_getElem? hph); lia) (by lia)
      rw [sps_ln S O (List.mem_of_getElem? hph) hr2 (by have := K.room ph (List.mem_of_getElem? hph); lia) (by lia)] at hln
      have e2 := Option.some.inj hln
      have hlk := (like_iff hph hj hr2 (by rw [qa]; exact hrk)).mpr ⟨by lia, by
        have := congrArg Prod.fst (e2.trans ex); exact this, by have := congrArg Prod.snd (e2.trans ex); exact this⟩
      rcases hend with hb | hb
      · lia
      · rw [hlk] at hb; cases hb
end
end

/-! P3 -/
section
theorem asc_unique : ∀ {xs ys : List Int}, xs.Pairwise (· < ·) → ys.Pairwise (· < ·) → (∀ n, n ∈ xs ↔ n ∈ ys) → xs = ys
  | [], [], _, _, _ => rfl
  | [], y :: ys, _, _, h => by have := (h y).mpr (.head _); simp at this
  | x :: xs, [], _, _, h => by have := (h x).mp (.head _); simp at this
  | x :: xs, y :: ys, hx, hy, h => by
    obtain ⟨x1, x2⟩ := List.pairwise_cons.mp hx
    obtain ⟨y1, y2⟩ := List.pairwise_cons.mp hy
    have e : x = y := by
      rcases List.mem_cons.mp ((h x).mp (.head _)) with q | q
      · exact q
      · rcases List.mem_cons.mp ((h y).mpr (.head _)) with q' | q'
        · exact q'.symm
        · have := y1 x q; have := x1 y q'; lia
    subst e
    have := asc_unique x2 y2 fun n => by
      constructor
      · intro hn
        rcases List.mem_cons.mp ((h n).mp (.tail _ hn)) with q | q
        · have := x1 n hn; lia
        · exact q
      · intro hn
        rcases List.mem_cons.mp ((h n).mpr (.tail _ hn)) with q | q
        · have := y1 n hn; lia
        · exact q
    rw [this]
section
variable {many : Int} {rows : List Row} {sps : List Sp}
theorem los_asc (O : RowsOk many rows) (S : SpsFor rows sps) : (sps.map (·.lo)).Pairwise (· < ·) := by
  have K := sps_ok S O
  rw [List.pairwise_map, List.pairwise_iff_getElem]
  intro i j hi hj hij
  have := K.ord i j _ _ hij (List.getElem?_eq_getElem hi) (List.getElem?_eq_getElem hj)
  have := K.room _ (List.getElem_mem hi)
  lia
theorem starts_mem (S : SpsFor rows sps) {a : Int} : Starts rows a ↔ a ∈ sps.map (·.lo) := by
  rw [List.mem_map]
  constructor
  · rintro ⟨i, r, hin, hr, e⟩
    obtain ⟨p, hp, hat, h1, h2⟩ := sps_of S hin
    obtain ⟨r', hr', e', -⟩ := sps_row S hp
    rw [hat, hr] at hr'; cases hr'
    exact ⟨p, hp, by lia⟩
  · rintro ⟨p, hp, rfl⟩
    obtain ⟨r', hr', e', -⟩ := sps_row S hp
    exact ⟨p.at_, r', sps_in S hp (Int.le_refl _) (raw_room ((sps_mem S).mp hp)), hr', e'⟩
theorem starts_eq (O : RowsOk many rows) (S : SpsFor rows sps) {xs : List Int} (h : AscSet xs (Starts rows)) : xs = sps.map (·.lo) :=
  asc_unique h.1 (los_asc O S) fun n => (h.2 n).trans (starts_mem S)

/-- within one run the law's span is the same -/
theorem run_shift {u v : Int} {x : Int × Int} {r : Option (Int × Int)} (huv : u ≤ v) (hx : ∀ y, u ≤ y → y ≤ v → ln rows y = some x) : LawSpan rows u r ↔ LawSpan rows v r := by
  constructor
  · rintro (⟨rfl, hn⟩ | ⟨lo, hi, z, rfl, hz, h1, h2, h3, h4, h5⟩)
    · rw [hx u (Int.le_refl _) huv] at hn; cases hn
    · have e : z = x := by rw [hx u (Int.le_refl _) huv] at hz; exact (Option.some.inj hz).symm
      subst e
      refine .inr ⟨lo, hi, z, rfl, hx v huv (Int.le_refl _), by lia, ?_, h3, h4, h5⟩
      by_cases c : v < hi
      · exact c
      · exact absurd (hx hi (by lia) (by lia)) h5
  · rintro (⟨rfl, hn⟩ | ⟨lo, hi, z, rfl, hz, h1, h2, h3, h4, h5⟩)
    · rw [hx v huv (Int.le_refl _)] at hn; cases hn
    · have e : z = x := by rw [hx v huv (Int.le_refl _)] at hz; exact (Option.some.inj hz).symm
      subst e
      refine .inr ⟨lo, hi, z, rfl, hx u (Int.le_refl _) huv, ?_, by lia, h3, h4, h5⟩
      by_cases c : lo ≤ u
      · exact c
      · exact absurd (hx (lo - 1) (by lia) (by lia)) h4
theorem lowAt_le {a lo : Int} (h : LowAt rows a lo) : lo ≤ a := by
  obtain ⟨hi, h⟩ := h
  rcases h with ⟨h, -⟩ | ⟨lo', hi', x, h, -, h1, -⟩
  · cases h
  · cases h; exact h1
theorem lowAt_one {a lo lo' : Int} (h : LowAt rows a lo) (h' : LowAt rows a lo') : lo = lo' := by
  obtain ⟨hi, h⟩ := h
  obtain ⟨hi', h'⟩ := h'
  have := law_unique h h'
  cases this; rfl
/-- two spans that are alike lie in one run -/
theorem like_run (O : RowsOk many rows) (S : SpsFor rows sps) {k : Nat} {p q : Sp} (hp : sps[k]? = some p) (hq : sps[k + 1]? = some q) (h : like rows sps k (k + 1) = true) (t : Int) : LowAt rows p.lo t ↔ LowAt rows q.lo t := by
  have K := sps_ok S O
  obtain ⟨r1, hr1, -, -⟩ := sps_row S (List.mem_of_getElem? hp)
  obtain ⟨r2, hr2, -, -⟩ := sps_row S (List.mem_of_getElem? hq)
  obtain ⟨e1, e2, e3⟩ := (like_iff hp hq hr1 hr2).mp h
  have R : ∀ r, LawSpan rows p.lo r ↔ LawSpan rows q.lo r := fun r => by
    refine run_shift (x := (r1.file, r1.line)) (by have := K.room p (List.mem_of_getElem? hp); lia) fun y y1 y2 => ?_
    by_cases c : y < p.hi
    · exact sps_ln S O (List.mem_of_getElem? hp) hr1 y1 c
    · rw [e2, e3]; exact sps_ln S O (List.mem_of_getElem? hq) hr2 (by lia) (by have := K.room q (List.mem_of_getElem? hq); lia)
  unfold LowAt
  constructor
  · rintro ⟨hi, h⟩; exact ⟨hi, (R _).mp h⟩
  · rintro ⟨hi, h⟩; exact ⟨hi, (R _).mpr h⟩
/-- where a run begins -/
theorem unlike_run (O : RowsOk many rows) (S : SpsFor rows sps) {k : Nat} {q : Sp} (hq : sps[k]? = some q) (h : k = 0 ∨ like rows sps (k - 1) k = false) {t : Int} (ht : LowAt rows q.lo t) : t = q.lo := by
  have K := sps_ok S O
  have hle := lowAt_le ht
  obtain ⟨hi, ht⟩ := ht
  rcases ht with ⟨ht, -⟩ | ⟨lo', hi', x, ht, hx, h1, h2, h3, h4, h5⟩
  · cases ht
  · cases ht
    by_cases c : t = q.lo
    · exact c
    · exfalso
      have hl := h3 (q.lo - 1) (by lia) (by lia)
      obtain ⟨i, r1, hin, hr1, ex⟩ := ln_some hl
      obtain ⟨p, hp, pa, c1, c2⟩ := sps_of S hin
      obtain ⟨j, hj⟩ := List.mem_iff_getElem?.mp hp
      obtain ⟨r2, hr2, -, -⟩ := sps_row S (List.mem_of_getElem? hq)
      have hjk : j < k := by
        rcases Nat.lt_or_ge j k with d | d
        · exact d
        · have := K.lo d hq hj; lia
      have hk1 : sps[k - 1]? = some (sps[k - 1]'(by have := (List.getElem?_eq_some_iff.mp hq).1; lia)) := List.getElem?_eq_getElem _
      have o1 := K.ord (k - 1) k _ _ (by lia) hk1 hq
      have hjk1 : j = k - 1 := by
        rcases Nat.lt_or_ge j (k - 1) with d | d
        · have := K.ord j (k - 1) _ _ d hj hk1
          have := K.room _ (List.mem_of_getElem? hk1)
          lia
        · lia
      subst hjk1
      have o2 := K.ord (k - 1) k _ _ (by lia) hj hq
      have hq2 := sps_ln S O (List.mem_of_getElem? hq) hr2 (Int.le_refl _) (K.room q (List.mem_of_getElem? hq))
      rw [hx] at hq2
      have e2 := Option.some.inj hq2
      have hlk := (like_iff hj hq (by rw [pa]; exact hr1) hr2).mpr ⟨by lia, by have := congrArg Prod.fst (ex.symm.trans e2); exact this, by have := congrArg Prod.snd (ex.symm.trans e2); exact this⟩
      rcases h with h | h
      · lia
      · rw [hlk] at h; cases h
theorem stmt_iff (O : RowsOk many rows) (S : SpsFor rows sps) {p : Sp} (hp : p ∈ sps) {r : Row} (hr : rows[p.at_]? = some r) {f l : Int} : StmtAt rows f l p.lo ↔ (r.file = f ∧ r.line = l) ∧ r.stmt = true := by
  have hin := sps_in S hp (Int.le_refl _) (raw_room ((sps_mem S).mp hp))
  constructor
  · rintro ⟨i, r', h1, h2, h3⟩
    have := O.apart _ _ _ h1 hin
    subst this
    rw [hr] at h2; cases h2; exact h3
  · exact fun h => ⟨p.at_, r, hin, hr, h⟩
theorem begs_step {f l : Int} {k : Nat} {p : Sp} {r : Row} (hp : sps[k]? = some p) (hr : rows[p.at_]? = some r) {told : Bool} (ht : told = if k = 0 ∨ like rows sps (k - 1) k = false then false else (begs rows sps f l k).2) :
    begs rows sps f l (k + 1) = if (r.file = f ∧ r.line = l) ∧ r.stmt = true ∧ told = false then ((begs rows sps f l k).1 ++ [p.lo], true) else ((begs rows sps f l k).1, told) := by
  rw [begs, hp]
  simp only
  rw [hr]
  simp only [← ht]
/-- what the law gathers is what the table tells -/
theorem placed_begs (O : RowsOk many rows) (S : SpsFor rows sps) {f l : Int} : ∀ (k : Nat), k ≤ sps.length → ∀ {g : List Int} {t : Int}, Placed rows f l (sps.map (·.lo)) k g t →
    g = (begs rows sps f l k).1 ∧ (∀ j p, k ≤ j → sps[j]? = some p → t < p.lo) ∧ (∀ p, 0 < k → sps[k - 1]? = some p → ((begs rows sps f l k).2 = true ↔ LowAt rows p.lo t))
  | 0, _, g, t, h => by
    obtain ⟨rfl, rfl⟩ := h
    refine ⟨rfl, fun j p _ hp => ?_, fun p h0 => absurd h0 (Nat.lt_irrefl _)⟩
    obtain ⟨r, hr, e, -⟩ := sps_row S (List.mem_of_getElem? hp)
    have := O.lim _ (List.mem_of_getElem? hr)
    lia
  | k + 1, hk, g, t, h => by
    have K := sps_ok S O
    obtain ⟨g', t', a, hP, ha, hc⟩ := h
    obtain ⟨i1, i2, i3⟩ := placed_begs O S k (by lia) hP
    have hp : sps[k]? = some sps[k] := List.getElem?_eq_getElem (by lia)
    have hpm := List.mem_of_getElem? hp
    obtain ⟨r, hr, -, -⟩ := sps_row S hpm
    have ea : a = sps[k].lo := by
      rw [List.getElem?_map, hp] at ha
      exact (Option.some.inj ha).symm
    have hst := stmt_iff O S hpm hr (f := f) (l := l)
    rw [← ea] at hst
    have hbs := begs_step (f := f) (l := l) hp hr (told := if k = 0 ∨ like rows sps (k - 1) k = false then false else (begs rows sps f l k).2) rfl
    have told : (if k = 0 ∨ like rows sps (k - 1) k = false then false else (begs rows sps f l k).2) = true ↔ LowAt rows a t' := by
      rw [ea]
      by_cases c : k = 0 ∨ like rows sps (k - 1) k = false
      · rw [if_pos c]
        constructor
        · intro h; cases h
        · intro h
          have := unlike_run O S hp c h
          have := i2 k _ (Nat.le_refl _) hp
          lia
      · rw [if_neg c]
        have c1 : k ≠ 0 := fun e => c (.inl e)
        have c2 : like rows sps (k - 1) k = true := by
          cases q : like rows sps (k - 1) k with
          | true => rfl
          | false => exact absurd (.inr q) c
        have hp1 : sps[k - 1]? = some sps[k - 1] := List.getElem?_eq_getElem (by lia)
        rw [i3 _ (by lia) hp1]
        have e : k - 1 + 1 = k := by lia
        exact like_run O S hp1 (by rw [e]; exact hp) (by rw [e]; exact c2) t'
    have next : ∀ j p, k + 1 ≤ j → sps[j]? = some p → a < p.lo := fun j p hj hjp => by
      have := K.ord k j _ _ (by lia) hp hjp
      have := K.room _ hpm
      lia
    have ek : k + 1 - 1 = k := by lia
    generalize (if k = 0 ∨ like rows sps (k - 1) k = false then false else (begs rows sps f l k).2) = told' at hbs told
    rcases hc with ⟨h1, rfl, rfl⟩ | ⟨h1, lo, hlo, ⟨rfl, rfl, rfl⟩ | ⟨h2, rfl, rfl⟩⟩
    · rw [if_neg (fun h => h1 (hst.mpr ⟨h.1, h.2.1⟩))] at hbs
      rw [hbs]
      refine ⟨i1, fun j p hj hjp => i2 j p (by lia) hjp, fun p _ hpp => ?_⟩
      rw [ek, hp] at hpp; cases hpp
      rw [← ea]; exact told
    · have ht := told.mpr hlo
      rw [if_neg (fun h => by rw [ht] at h; exact absurd h.2.2 (by simp))] at hbs
      rw [hbs]
      refine ⟨i1, fun j p hj hjp => i2 j p (by lia) hjp, fun p _ hpp => ?_⟩
      rw [ek, hp] at hpp; cases hpp
      rw [← ea]; exact told
    · have ht : told' = false := by
        cases q : told' with
        | false => rfl
        | true => exact absurd (lowAt_one hlo (told.mp q)) h2
      obtain ⟨s1, s2⟩ := hst.mp h1
      rw [if_pos ⟨s1, s2, ht⟩] at hbs
      rw [hbs]
      refine ⟨by rw [i1, ea], fun j p hj hjp => ?_, fun p _ hpp => ?_⟩
      · have := lowAt_le hlo; have := next j p hj hjp; lia
      · rw [ek, hp] at hpp; cases hpp
        rw [← ea]
        exact ⟨fun _ => hlo, fun _ => rfl⟩
theorem lineFrom_one {P : Int → Prop} {line u v : Int} (hu : LineFrom P line u) (hv : LineFrom P line v) : u = v := by
  rcases hu with ⟨rfl, h1⟩ | ⟨h1, h2, h3⟩ <;> rcases hv with ⟨rfl, k1⟩ | ⟨k1, k2, k3⟩
  · rfl
  · have := h1 _ k1; lia
  · have := k1 _ h1; lia
  · have := h3 _ k1 k2; have := k3 _ h1 h2; lia
/-- the second row within some code -/
theorem second_eq (low high : Int) : secondIn sps low high = (((sps.map (·.lo)).filter (fun a => decide (low < a) && decide (a < high))) ++ [low]).headD 0 := by
  unfold secondIn
  induction sps with
  | nil => rfl
  | cons p sps ih =>
    rw [List.find?_cons, List.map_cons, List.filter_cons]
    cases h : (decide (low < p.lo) && decide (p.lo < high)) with
    | true => simp
    | false => simpa using ih
/-- no code, no place -/
theorem placed_none {f l : Int} {xs : List Int} (hn : ∀ a, ¬ StmtAt rows f l a) : ∀ {k : Nat} {g : List Int} {t : Int}, Placed rows f l xs k g t → g = []
  | 0, g, t, h => h.1
  | k + 1, g, t, ⟨g', t', a, h, _, h'⟩ => by
    have := placed_none hn h
    rcases h' with ⟨_, rfl, _⟩ | ⟨h1, _⟩
    · exact this
    · exact absurd h1 (hn a)
end
end

/-! P4 -/
section
def Far (u v : Int) : Prop := u + 36 ≤ v ∨ v + 36 ≤ u
theorem Far.symm {u v : Int} (h : Far u v) : Far v u := Or.symm h
/-- rows that are gathered of sequences begun at the used addresses -/
structure Inv (many : Int) (used : List Int) (rows : List Row) : Prop where
  len : rows.length ≤ 7 * used.length
  cnt : (rows.filter (fun r => !r.fin)).length ≤ 6 * used.length
  code : ∀ r ∈ rows, r.fin = false → Code many r
  step : ∀ i r t, rows[i]? = some r → rows[i + 1]? = some t → r.fin = false → r.addr ≤ t.addr ∧ t.addr ≤ r.addr + 6
  lim : ∀ r ∈ rows, ∃ u ∈ used, u ≤ r.addr ∧ r.addr ≤ u + 36
  home : ∀ i a, InRow rows i a → ∃ u ∈ used, u ≤ a ∧ a < u + 36
  last : ∀ r, rows[rows.length - 1]? = some r → r.fin = true
  apart : ∀ i j a, InRow rows i a → InRow rows j a → i = j
theorem chain_ge {e : Row} : ∀ {rs : List Row} {a z : Int}, Chain a rs z → e.addr = z → ∀ t ∈ rs ++ [e], a ≤ t.addr ∧ t.addr ≤ a + 6 * rs.length
  | [], a, z, h, he, t, ht => by
    have h : a = z := h
    rw [List.nil_append, List.mem_singleton] at ht
    subst ht; simp; lia
  | x :: rs, a, z, h, he, t, ht => by
    obtain ⟨hx, b, h3, h4, h5⟩ := h
    rw [List.cons_append] at ht
    rw [List.length_cons]
    rcases List.mem_cons.mp ht with rfl | ht
    · lia
    · have := chain_ge h5 he t ht; lia
theorem chain_step {e : Row} : ∀ {rs : List Row} {a z : Int}, Chain a rs z → e.addr = z → ∀ i r t, (rs ++ [e])[i]? = some r → (rs ++ [e])[i + 1]? = some t → r.addr ≤ t.addr ∧ t.addr ≤ r.addr + 6
  | [], a, z, h, he, i, r, t, hr, ht => by simp at ht
  | x :: rs, a, z, h, he, i, r, t, hr, ht => by
    obtain ⟨hx, b, h3, h4, h5⟩ := h
    rw [List.cons_append] at hr ht
    cases i with
    | zero =>
      rw [List.getElem?_cons_zero] at hr
      cases hr
      rw [List.getElem?_cons_succ] at ht
      cases rs with
      | nil =>
        have h5 : b = z := h5
        simp at ht; subst ht; lia
      | cons y ys =>
        obtain ⟨hy, -⟩ := h5
        simp at ht; subst ht; lia
    | succ i =>
      rw [List.getElem?_cons_succ] at hr ht
      exact chain_step h5 he i r t hr ht
theorem chain_mono {e : Row} : ∀ {rs : List Row} {a z : Int}, Chain a rs z → e.addr = z → ∀ (i j : Nat) (r t : Row), i ≤ j → (rs ++ [e])[i]? = some r → (rs ++ [e])[j]? = some t → r.addr ≤ t.addr
  | [], a, z, h, he, i, j, r, t, hij, hr, ht => by
    rw [List.nil_append] at hr ht
    have h1 := List.mem_of_getElem? hr
    have h2 := List.mem_of_getElem? ht
    rw [List.mem_singleton] at h1 h2
    subst h1; subst h2; exact Int.le_refl _
  | x :: rs, a, z, h, he, i, j, r, t, hij, hr, ht => by
    obtain ⟨hx, b, h3, h4, h5⟩ := id h
    rw [List.cons_append] at hr ht
    cases i with
    | zero =>
      rw [List.getElem?_cons_zero] at hr
      cases hr
      have := (chain_ge h he t (List.mem_of_getElem? ht)).1
      lia
    | succ i =>
      cases j with
      | zero => lia
      | succ j =>
        rw [List.getElem?_cons_succ] at hr ht
        exact chain_mono h5 he i j r t (by lia) hr ht
theorem inv_one {many st : Int} {rows : List Row} (h : SeqOk st many rows) : Inv many [st] rows := by
  obtain ⟨body, z, rfl, hch, hcode, hlen⟩ := h
  have ge := chain_ge (e := ⟨z, 1, 1, true, true⟩) hch rfl
  have mono := chain_mono (e := ⟨z, 1, 1, true, true⟩) hch rfl
  have hin : ∀ i a, InRow (body ++ [⟨z, 1, 1, true, true⟩]) i a → st ≤ a ∧ a < st + 36 := fun i a ⟨r, t, h1, h2, h3, h4, h5⟩ => by
    have := ge r (List.mem_of_getElem? h1)
    have := ge t (List.mem_of_getElem? h2)
    lia
  refine ⟨by simp; lia, ?_, fun r hr hf => ?_, fun i r t hr ht _ => chain_step hch rfl i r t hr ht, fun r hr => ⟨st, .head _, by have := ge r hr; lia, by have := ge r hr; lia⟩, fun i a h => ⟨st, .head _, hin i a h⟩, fun r hr => ?_, fun i j a hi hj => ?_⟩
  · rw [List.filter_append]
    simp
    exact Nat.le_trans (List.length_filter_le ..) hlen
  · rcases List.mem_append.mp hr with hr | hr
    · exact hcode r hr
    · rw [List.mem_singleton.mp hr] at hf; cases hf
  · simp at hr; rw [← hr]
  · obtain ⟨r, t, h1, h2, h3, h4, h5⟩ := hi
    obtain ⟨r', t', k1, k2, k3, k4, k5⟩ := hj
    rcases Nat.lt_trichotomy i j with c | c | c
    · have := mono (i + 1) j t r' (by lia) h2 k1; lia
    · exact c
    · have := mono (j + 1) i t' r (by lia) k2 h1; lia
theorem inRow_app {rows blk : List Row} (last : ∀ r, rows[rows.length - 1]? = some r → r.fin = true) {i : Nat} {a : Int} (h : InRow (rows ++ blk) i a) : InRow rows i a ∨ (rows.length ≤ i ∧ InRow blk (i - rows.length) a) := by
  obtain ⟨r, t, h1, h2, h3, h4, h5⟩ := h
  rcases Nat.lt_or_ge (i + 1) rows.length with c | c
  · left
    rw [List.getElem?_append_left (by lia)] at h1
    rw [List.getElem?_append_left c] at h2
    exact ⟨r, t, h1, h2, h3, h4, h5⟩
  · rcases Nat.lt_or_ge i rows.length with d | d
    · exfalso
      rw [List.getElem?_append_left d] at h1
      have := last r (by rw [show rows.length - 1 = i by lia]; exact h1)
      rw [this] at h3; cases h3
    · right
      rw [List.getElem?_append_right d] at h1
      rw [List.getElem?_append_right c] at h2
      exact ⟨d, r, t, h1, by rw [show i - rows.length + 1 = i + 1 - rows.length by lia]; exact h2, h3, h4, h5⟩
theorem Inv.app {many : Int} {us vs : List Int} {rows blk : List Row} (h : Inv many us rows) (k : Inv many vs blk) (hf : ∀ u ∈ us, ∀ v ∈ vs, Far u v) : Inv many (us ++ vs) (rows ++ blk) := by
  refine ⟨?_, ?_, fun r hr hfin => ?_, fun i r t h1 h2 h3 => ?_, fun r hr => ?_, fun i a hi => ?_, fun r hr => ?_, fun i j a hi hj => ?_⟩
  · have := h.len; have := k.len; rw [List.length_append, List.length_append]; lia
  · have := h.cnt; have := k.cnt; rw [List.filter_append, List.length_append, List.length_append]; lia
  · rcases List.mem_append.mp hr with hr | hr
    · exact h.code r hr hfin
    · exact k.code r hr hfin
  · rcases Nat.lt_or_ge (i + 1) rows.length with c | c
    · rw [List.getElem?_append_left (by lia)] at h1
      rw [List.getElem?_append_left c] at h2
      exact h.step i r t h1 h2 h3
    · rcases Nat.lt_or_ge i rows.length with d | d
      · exfalso
        rw [List.getElem?_append_left d] at h1
        have := h.last r (by rw [show rows.length - 1 = i by lia]; exact h1)
        rw [this] at h3; cases h3
      · rw [List.getElem?_append_right d] at h1
        rw [List.getElem?_append_right c] at h2
        exact k.step (i - rows.length) r t h1 (by rw [show i - rows.length + 1 = i + 1 - rows.length by lia]; exact h2) h3
  · rcases List.mem_append.mp hr with hr | hr
    · obtain ⟨u, hu, h1⟩ := h.lim r hr; exact ⟨u, List.mem_append_left _ hu, h1⟩
    · obtain ⟨u, hu, h1⟩ := k.lim r hr; exact ⟨u, List.mem_append_right _ hu, h1⟩
  · rcases inRow_app h.last hi with hi | ⟨_, hi⟩
    · obtain ⟨u, hu, h1⟩ := h.home i a hi; exact ⟨u, List.mem_append_left _ hu, h1⟩
    · obtain ⟨u, hu, h1⟩ := k.home _ a hi; exact ⟨u, List.mem_append_right _ hu, h1⟩
  · rcases Nat.eq_zero_or_pos blk.length with c | c
    · have : blk = [] := List.eq_nil_of_length_eq_zero c
      subst this
      rw [List.append_nil] at hr
      exact h.last r hr
    · rw [List.length_append, List.getElem?_append_right (by lia), show rows.length + blk.length - 1 - rows.length = blk.length - 1 by lia] at hr
      exact k.last r hr
  · rcases inRow_app h.last hi with hi | ⟨ci, hi⟩ <;> rcases inRow_app h.last hj with hj | ⟨cj, hj⟩
    · exact h.apart i j a hi hj
    · obtain ⟨u, hu, h1⟩ := h.home _ _ hi
      obtain ⟨v, hv, h2⟩ := k.home _ _ hj
      have := hf u hu v hv
      unfold Far at this; lia
    · obtain ⟨u, hu, h1⟩ := h.home _ _ hj
      obtain ⟨v, hv, h2⟩ := k.home _ _ hi
      have := hf u hu v hv
      unfold Far at this; lia
    · have := k.apart _ _ a hi hj; lia
theorem Inv.nil (many : Int) : Inv many [] [] := by
  refine ⟨Nat.le_refl _, Nat.le_refl _, fun r hr => (nomatch hr), fun i r t h => ?_, fun r hr => (nomatch hr), fun i a h => ?_, fun r h => ?_, fun i j a h => ?_⟩
  · simp at h
  · obtain ⟨r, t, h, -⟩ := h; simp at h
  · simp at h
  · obtain ⟨r, t, h, -⟩ := h; simp at h
theorem Inv.ok {many : Int} {us : List Int} {rows : List Row} (h : Inv many us rows) (hl : us.length ≤ 3) (hu : ∀ u ∈ us, 1000 ≤ u ∧ u ≤ 1100) : RowsOk many rows := by
  refine ⟨by have := h.len; lia, h.code, h.step, fun r hr => ?_, h.apart, by have := h.cnt; lia⟩
  obtain ⟨u, hu', h1⟩ := h.lim r hr
  have := hu u hu'
  lia
/-- one start is taken -/
theorem far_pop {us pre post : List Int} {v : Int} (h : (us ++ (pre ++ v :: post)).Pairwise Far) : ((us ++ [v]) ++ (pre ++ post)).Pairwise Far ∧ (∀ u ∈ us, Far u v) := by
  obtain ⟨h1, h2, h3⟩ := List.pairwise_append.mp h
  refine ⟨?_, fun u hu => h3 u hu v (by simp)⟩
  have p2 : (us ++ (pre ++ v :: post)).Perm ((us ++ [v]) ++ (pre ++ post)) := by
    rw [List.append_assoc]
    exact List.perm_middle.append_left us
  exact p2.pairwise h Far.symm
end

/-! F21 -/
section
section
variable {w : World} {T : Heap} {A : Around} {G : View} {x : Addr} {names : List PySem.Str} {rvs : List Value} {rows : List Row} {sps : List Sp} {many : Int}
set_option pp.deepTerms false
set_option pp.deepTerms.threshold 3
set_option pp.maxSteps 1500
theorem eqOO {prog : Program} {w : World} {b : Bs} {env : Env} {m cm : Nm} {mu : Mu} {s : Shared} {E : Value → Shared → Prop} {Q : Value → Shared → Prop} {v u : Value} {r : Option (Int × Int)} {n : Nat}
    (hA : Ok A n) (F : Fs b env m cm G mu s) (hv : OptPair G v r) (hu : OptPair G u r) (h : Q (.bool true) s) : wpAny (model prog w) A (compareOp .Eq v u) Q E s := by
  rcases hv with ⟨rfl, rfl⟩ | ⟨lo, hi, t, u1, u2, rfl, rfl, ht⟩
  · rcases hu with ⟨-, rfl⟩ | ⟨lo', hi', t', u1', u2', e, rfl, ht'⟩
    · exact eq_dataH_same (.none) (.none) (by decide +kernel) (by decide +kernel) (by have := hA.units; omega) (by simp only [noMix]) (by simp only [PySem.Spec.same]; exact h)
    · cases e
  · rcases hu with ⟨e, -⟩ | ⟨lo', hi', t', u1', u2', e, rfl, ht'⟩
    · cases e
    · cases e
      exact eqTT hA F ht (.cons _ _ (.cons _ _ .nil)) ht' (.cons _ _ (.cons _ _ .nil)) (by simpa using h)
theorem right_ok {rl pl d : Addr} {kvs : List (Int × Value)} {a : Int} {t : Tok} (C : Cx (KK w) T) (hA : Ok A 7) (H : TabAt G x names rvs rows sps) (hrl : LstAt G rl rvs) (hr : PRows G (.ref pl) rows) (O : RowsOk many rows) (D : DAt PR w G d kvs) (V : CovOf rows rows.length kvs)
    (SF : SpsFor rows sps) : Calls PR w T A (.ref 186) [.ref x, .ref rl, .ref pl, .ref d, .int a t] G [] (fun _ _ v => v = .bool true) := by
  refine Calls.of_def C (binds := [("table", .ref x), ("rows", .ref rl), ("plain_rows", .ref pl), ("cover", .ref d), ("address", .int a t)]) hA (by with_unfolding_all rfl) (by with_unfolding_all rfl) (by with_unfolding_all rfl) ?_ ?_ ?_
  · intro n x hx
    left
    simp only [List.mem_cons, List.not_mem_nil, or_false] at hx
    rcases hx with rfl | rfl | rfl | rfl | rfl <;> rfl
  · decide
  · clear hA; intro S L s A hA Q E F ret
    have K := sps_ok SF O
    have H' := H
    obtain ⟨hrv, ⟨hb1, hb2, hb3, hb4⟩, es, fl, rl', sl, nvs, svs, I, ef, er, es', el, hf, hfn, hr', hsl, hsp⟩ := H
    have l2 := hrv.len
    have lf := hfn.len
    (refine execsK ?_; intro _ _ _; (with_reducible refine wpAny_Assign_Name ?_ (by with_unfolding_all (intros; rfl))); (with_reducible refine MethodCall_ ?_ (by with_unfolding_all (intros; rfl))); refine nameL F (by first | rfl | assumption) ?_; refine methG C F (by assumption) (clsOk106 _) (by first | with_reducible exact me_like _ | with_reducible exact me_place _ | with_reducible exact me_number _ | with_reducible exact me_name _ | with_reducible exact me_row _ | with_reducible exact me_span _ | with_reducible exact me_begin _ | with_reducible exact me_lines _ | with_reducible exact me_from _ | with_reducible exact me_places _ | with_reducible exact me_second _) (by first | exact noName (by assumption) _ (by rfl) | rfl) ?_; refine callWith_K C.X (by rfl) ?_; (with_reducible refine wpAny_items_cons ?_ (by with_unfolding_all (intros; rfl))); refine nameL F (by first | rfl | assumption) ?_; (with_reducible refine wpAny_items_nil ?_); refine inAnd C F ?_)
    refine Fs.calls0 (row_at_ok C (hA.mono (by decide)) H' K) F ?_
    clear F; intro s G1 v le1 F hv
    replace I := I.mono le1; replace hf := hf.mono le1; replace hrl := hrl.mono le1; replace hr := hr.mono le1; replace H' := H'.mono le1; replace D := D.mono le1
    replace hrv := hrv.mono (RowAt.mono le1)
    (refine storeL F ?_; clear F; intro s F; (with_reducible refine next_ (by assumption) ?_); refine execsK ?_; intro _ _ _; refine wpAny_If ?_; (with_reducible refine wpAny_isTrue_Compare1 ?_ (by with_unfolding_all (intros; rfl))); refine nameL F (by first | rfl | assumption) ?_; refine nameL F (by first | rfl | assumption) ?_)
    refine inD (prog := PR) (w := w) F D ?_
    clear F; intro s F
    ((with_reducible refine wpAny_truthy_bool ?_))
    cases hva : valueAt kvs a with
    | none =>
      have hno : ∀ i, ¬ InRow rows i a := fun i hi => by
        obtain ⟨v, e⟩ := valueAt_some (V.key i a hi.lt hi)
        rw [hva] at e; cases e
      have ev : v = .none := by
        rcases hv with ⟨e, -⟩ | ⟨p, hp, h1, h2, -⟩
        · exact e
        · exact absurd (sps_in SF hp h1 h2) (hno _)
      subst ev
      refine ifF ?_
      (refine execsK ?_; intro _ _ _; refine wpAny_If ?_; (with_reducible refine wpAny_isTrue_Compare1 ?_ (by with_unfolding_all (intros; rfl))); refine nameL F (by first | rfl | assumption) ?_; (with_reducible refine wpAny_Constant_none ?_); (with_reducible refine isNot_none ?_); (with_reducible refine wpAny_truthy_bool ?_))
      refine ifF ?_
      ((with_reducible refine wpAny_execs_nil ?_); (with_reducible refine next_ (by assumption) ?_); (with_reducible refine wpAny_execs_nil ?_); (with_reducible refine next_ (by assumption) ?_); refine execsK ?_; intro _ _ _; (with_reducible refine wpAny_Return_some ?_); (with_reducible refine wpAny_Compare1 ?_ (by with_unfolding_all (intros; rfl))); (with_reducible refine MethodCall_ ?_ (by with_unfolding_all (intros; rfl))); refine nameL F (by first | rfl | assumption) ?_; refine methG C F (by assumption) (clsOk106 _) (by first | with_reducible exact me_like _ | with_reducible exact me_place _ | with_reducible exact me_number _ | with_reducible exact me_name _ | with_reducible exact me_row _ | with_reducible exact me_span _ | with_reducible exact me_begin _ | with_reducible exact me_lines _ | with_reducible exact me_from _ | with_reducible exact me_places _ | with_reducible exact me_second _) (by first | exact noName (by assumption) _ (by rfl) | rfl) ?_; refine callWith_K C.X (by rfl) ?_; (with_reducible refine wpAny_items_cons ?_ (by with_unfolding_all (intros; rfl))); refine nameL F (by first | rfl | assumption) ?_; (with_reducible refine wpAny_items_nil ?_); refine inAnd C F ?_)
      refine Fs.calls0 (span_at_ok C (hA.mono (by decide)) H' K) F ?_
      clear F; rintro s G2 v2 le2 F ⟨r2, hr2, hs2⟩
      replace hr := hr.mono le2; replace D := D.mono le2
      ((with_reducible refine Call_ ?_ (by with_unfolding_all (intros; rfl))); refine nameK C F (by rfl) ?_; refine callWith_K C.X (by rfl) ?_; (with_reducible refine wpAny_items_cons ?_ (by with_unfolding_all (intros; rfl))); refine nameL F (by first | rfl | assumption) ?_; (with_reducible refine wpAny_items_cons ?_ (by with_unfolding_all (intros; rfl))); refine nameL F (by first | rfl | assumption) ?_; (with_reducible refine wpAny_items_cons ?_ (by with_unfolding_all (intros; rfl))); refine nameL F (by first | rfl | assumption) ?_; (with_reducible refine wpAny_items_nil ?_); refine inAnd C F ?_)
      refine Fs.calls0 (span_ok C (hA.mono (by decide)) hr O D V) F ?_
      clear F; rintro s G3 v3 le3 F ⟨r3, hr3, hs3⟩
      skip
      have := law_unique (span_law O SF hs2) hs3
      subst this
      refine eqOO hA F (hr2.mono le3) hr3 ?_
      repeat (with_reducible first | refine rt_ (by assumption) ?_ | refine fo_ (by assumption) ?_ | refine lp_r (by assumption) ?_)
      exact ret s _ _ _ [] [] _ F ((le1.trans le2).trans le3) rfl rfl
    | some cv =>
      obtain ⟨i, ti, hi, rfl, hin⟩ := V.at hva
      obtain ⟨rv, hrv', xa, esa, u1, u2, u3, rfl, Ia, ea1, ea2, ea3, ea4, ea5⟩ := hrv.get' (List.getElem?_eq_getElem hi)
      have ev : v = .ref xa := by
        rcases hv with ⟨e, hno⟩ | ⟨p, hp, h1, h2, h3⟩
        · obtain ⟨p, hp, -, h1, h2⟩ := sps_of SF hin
          exact absurd ⟨h1, h2⟩ (hno p hp)
        · rw [O.apart _ _ _ (sps_in SF hp h1 h2) hin, hrv'] at h3
          exact (Option.some.inj h3).symm
      subst ev
      refine ifT ?_
      (refine execsK ?_; intro _ _ _; refine wpAny_If ?_; (with_reducible refine wpAny_isTrue_Compare1 ?_ (by with_unfolding_all (intros; rfl))); refine nameL F (by first | rfl | assumption) ?_; (with_reducible refine Subscript_ ?_); refine nameL F (by first | rfl | assumption) ?_; (with_reducible refine Subscript_ ?_); refine nameL F (by first | rfl | assumption) ?_; refine nameL F (by first | rfl | assumption) ?_)
      refine itemD (prog := PR) (w := w) F D hva ?_
      clear F; intro s F
      (refine itemLn F (by assumption) (by assumption) (by omega) ?_)
      refine wpAny_isNot_ref_self ?_
      ((with_reducible refine wpAny_truthy_bool ?_); (with_reducible refine ifF ?_); (with_reducible refine wpAny_execs_nil ?_); (with_reducible refine next_ (by assumption) ?_); refine execsK ?_; intro _ _ _; (with_reducible refine wpAny_Assign_Name ?_ (by with_unfolding_all (intros; rfl))); (with_reducible refine Attribute_any_ ?_ (by with_unfolding_all (intros; rfl))); refine nameL F (by first | rfl | assumption) ?_; refine attrG C F (by assumption) (clsOk127 _) (by first | with_reducible exact at_address _ | with_reducible exact at_file _ | with_reducible exact at_line _ | with_reducible exact at_is_stmt _ | with_reducible exact at_is_end _) (by first | assumption | rfl) (by rfl) ?_; clear F; intro s F; refine storeL F ?_; clear F; intro s F; (with_reducible refine next_ (by assumption) ?_); refine execsK ?_; intro _ _ _; refine wpAny_If ?_; (with_reducible refine wpAny_isTrue_Compare1 ?_ (by with_unfolding_all (intros; rfl))); (with_reducible refine MethodCall_ ?_ (by with_unfolding_all (intros; rfl))); refine nameL F (by first | rfl | assumption) ?_; refine methG C F (by assumption) (clsOk106 _) (by first | with_reducible exact me_like _ | with_reducible exact me_place _ | with_reducible exact me_number _ | with_reducible exact me_name _ | with_reducible exact me_row _ | with_reducible exact me_span _ | with_reducible exact me_begin _ | with_reducible exact me_lines _ | with_reducible exact me_from _ | with_reducible exact me_places _ | with_reducible exact me_second _) (by first | exact noName (by assumption) _ (by rfl) | rfl) ?_; refine callWith_K C.X (by rfl) ?_; (with_reducible refine wpAny_items_cons ?_ (by with_unfolding_all (intros; rfl))); refine nameL F (by first | rfl | assumption) ?_; (with_reducible refine wpAny_items_nil ?_); refine inAnd C F ?_)
      refine Fs.calls0 (file_name_ok C (hA.mono (by decide)) H' ⟨xa, esa, u1, u2, u3, rfl, Ia, ea1, ea2, ea3, ea4, ea5⟩) F ?_
      clear F; rintro s G2 _ le2 F ⟨tn, rfl⟩
      replace I := I.mono le2; replace hf := hf.mono le2; replace hr := hr.mono le2; replace H' := H'.mono le2; replace D := D.mono le2
      have hfile : 1 ≤ rows[i].file := by
        obtain ⟨r, t, h1, h2, h3, -⟩ := hin
        rw [List.getElem?_eq_getElem hi] at h1; cases h1
        exact (O.code _ (List.getElem_mem hi) h3).2.1
      ((with_reducible refine wpAny_IfExp ?_); (with_reducible refine wpAny_isTrue_Compare1 ?_ (by with_unfolding_all (intros; rfl))); refine nameL F (by first | rfl | assumption) ?_; (with_reducible refine Call_ ?_ (by with_unfolding_all (intros; rfl))); refine nameB C F (by rfl) (by first | with_reducible exact PySem.boot_len | with_reducible exact PyProof.Rows.boot_range | with_reducible exact PyProof.Rows.boot_sorted | with_reducible exact PyProof.Rows.boot_list | with_reducible exact PyProof.Rows.boot_enumerate) (by decide) ?_; (with_reducible refine PyProof.Rows.callWith_builtin1 ?_ (by with_unfolding_all (intros; rfl)) (by with_unfolding_all (intros; rfl))); (with_reducible refine wpAny_items_cons ?_ (by with_unfolding_all (intros; rfl))); (with_reducible refine Attribute_any_ ?_ (by with_unfolding_all (intros; rfl))); refine nameL F (by first | rfl | assumption) ?_; refine attrG C F (by assumption) (clsOk106 _) (by first | with_reducible exact at_rows _ | with_reducible exact at_spans _ | with_reducible exact at_files _) (by first | assumption | rfl) (by rfl) ?_; clear F; intro s F; (with_reducible refine wpAny_items_nil ?_))
      refine lenL F (F.f.lstG hf.at) (by omega) ?_
      clear F; intro t s F
      ((with_reducible refine PyProof.Rows.le_int ?_); (with_reducible refine wpAny_truthy_bool ?_))
      refine joinF F (fun v => StrIs v (fileName names rows[i].file)) (fun hc => ?_) (fun hc => ?_) ?_
      · have hc : rows[i].file ≤ nvs.length := by simpa using hc
        ((with_reducible refine Subscript_ ?_); (with_reducible refine Attribute_any_ ?_ (by with_unfolding_all (intros; rfl))); refine nameL F (by first | rfl | assumption) ?_; refine attrG C F (by assumption) (clsOk106 _) (by first | with_reducible exact at_rows _ | with_reducible exact at_spans _ | with_reducible exact at_files _) (by first | assumption | rfl) (by rfl) ?_; clear F; intro s F; (with_reducible refine wpAny_BinOp ?_); refine nameL F (by first | rfl | assumption) ?_; (with_reducible refine constI F ?_); clear F; intro t s F; (with_reducible refine subI F ?_); clear F; intro t s F)
        obtain ⟨nm, hnm, t2, ev⟩ := hfn.get (List.getElem?_eq_getElem (l := nvs) (i := (rows[i].file - 1).toNat) (by omega))
        refine itemL (F.f.lstG hf.at) (by omega) (by omega) (List.getElem?_eq_getElem (by omega)) ?_
        refine ⟨⟨t2, ?_⟩, F⟩
        rw [ev]; unfold fileName
        rw [if_pos ⟨by omega, by omega⟩, List.getD_eq_getElem?_getD, hnm]; rfl
      · have hc : ¬ rows[i].file ≤ nvs.length := by simpa using hc
        ((with_reducible refine constS F ?_); clear F; intro t s F)
        exact ⟨⟨t, by unfold fileName; rw [if_neg (by omega)]⟩, F⟩
      clear F
      rintro _ s ⟨t3, rfl⟩ F
      refine PyProof.Rows.ne_str ?_
      rw [bne_self_eq_false]
      ((with_reducible refine wpAny_truthy_bool ?_); (with_reducible refine ifF ?_); (with_reducible refine wpAny_execs_nil ?_); (with_reducible refine next_ (by assumption) ?_); (with_reducible refine wpAny_execs_nil ?_); (with_reducible refine next_ (by assumption) ?_); refine execsK ?_; intro _ _ _; (with_reducible refine wpAny_Return_some ?_); (with_reducible refine wpAny_Compare1 ?_ (by with_unfolding_all (intros; rfl))); (with_reducible refine MethodCall_ ?_ (by with_unfolding_all (intros; rfl))); refine nameL F (by first | rfl | assumption) ?_; refine methG C F (by assumption) (clsOk106 _) (by first | with_reducible exact me_like _ | with_reducible exact me_place _ | with_reducible exact me_number _ | with_reducible exact me_name _ | with_reducible exact me_row _ | with_reducible exact me_span _ | with_reducible exact me_begin _ | with_reducible exact me_lines _ | with_reducible exact me_from _ | with_reducible exact me_places _ | with_reducible exact me_second _) (by first | exact noName (by assumption) _ (by rfl) | rfl) ?_; refine callWith_K C.X (by rfl) ?_; (with_reducible refine wpAny_items_cons ?_ (by with_unfolding_all (intros; rfl))); refine nameL F (by first | rfl | assumption) ?_; (with_reducible refine wpAny_items_nil ?_); refine inAnd C F ?_)
      refine Fs.calls0 (span_at_ok C (hA.mono (by decide)) H' K) F ?_
      clear F; rintro s G3 v2 le3 F ⟨r2, hr2, hs2⟩
      replace hr := hr.mono le3; replace D := D.mono le3
      ((with_reducible refine Call_ ?_ (by with_unfolding_all (intros; rfl))); refine nameK C F (by rfl) ?_; refine callWith_K C.X (by rfl) ?_; (with_reducible refine wpAny_items_cons ?_ (by with_unfolding_all (intros; rfl))); refine nameL F (by first | rfl | assumption) ?_; (with_reducible refine wpAny_items_cons ?_ (by with_unfolding_all (intros; rfl))); refine nameL F (by first | rfl | assumption) ?_; (with_reducible refine wpAny_items_cons ?_ (by with_unfolding_all (intros; rfl))); refine nameL F (by first | rfl | assumption) ?_; (with_reducible refine wpAny_items_nil ?_); refine inAnd C F ?_)
      refine Fs.calls0 (span_ok C (hA.mono (by decide)) hr O D V) F ?_
      clear F; rintro s G4 v3 le4 F ⟨r3, hr3, hs3⟩
      skip
      have := law_unique (span_law O SF hs2) hs3
      subst this
      refine eqOO hA F (hr2.mono le4) hr3 ?_
      repeat (with_reducible first | refine rt_ (by assumption) ?_ | refine fo_ (by assumption) ?_ | refine lp_r (by assumption) ?_)
      exact ret s _ _ _ [] [] _ F (((le1.trans le2).trans le3).trans le4) rfl rfl
end
end

/-! P5 -/
section
def lawNames : List PySem.Str := ["a.c", "b.c", "c.c"]
theorem fileNo_names {many : Int} (h1 : 1 ≤ many) (h3 : many ≤ 3) {i : Nat} {nm : PySem.Str} (h : lawNames[i]? = some nm) : fileNo (lawNames.take many.toNat) nm = if (i : Int) < many then (i : Int) + 1 else 0 := by
  have hi : i < 3 := (List.getElem?_eq_some_iff.mp h).1
  obtain rfl | rfl | rfl : i = 0 ∨ i = 1 ∨ i = 2 := by omega
  all_goals
    have h : some _ = some nm := h
    cases h
    obtain rfl | rfl | rfl : many = 1 ∨ many = 2 ∨ many = 3 := by omega
    all_goals decide +kernel
section
variable {many : Int} {rows : List Row} {sps : List Sp} {kvs : List (Int × Value)}
theorem told_iff (S : SpsFor rows sps) {f n : Int} : Told rows sps f n ↔ ∃ i a r, InRow rows i a ∧ rows[i]? = some r ∧ r.stmt = true ∧ r.file = f ∧ r.line = n := by
  constructor
  · rintro ⟨p, hp, r, hr, h⟩
    exact ⟨p.at_, p.lo, r, sps_in S hp (Int.le_refl _) (raw_room ((sps_mem S).mp hp)), hr, h⟩
  · rintro ⟨i, a, r, hin, hr, h⟩
    obtain ⟨p, hp, hat, -, -⟩ := sps_of S hin
    exact ⟨p, hp, r, by rw [hat]; exact hr, h⟩
theorem told_pos (O : RowsOk many rows) (S : SpsFor rows sps) {f n : Int} (h : Told rows sps f n) : 1 ≤ n := by
  obtain ⟨i, a, r, ⟨r', t, h1, h2, h3, -⟩, hr, -, -, rfl⟩ := (told_iff S).mp h
  rw [hr] at h1; cases h1
  exact (O.code r (List.mem_of_getElem? hr) h3).2.2.2.1
theorem stmt_told (S : SpsFor rows sps) {f l a : Int} (h : StmtAt rows f l a) : Told rows sps f l := by
  obtain ⟨i, r, hin, hr, ⟨h1, h2⟩, h3⟩ := h
  exact (told_iff S).mpr ⟨i, a, r, hin, hr, h3, h1, h2⟩
theorem vals_mem (O : RowsOk many rows) (V : CovOf rows rows.length kvs) {y : Int} : y ∈ kvs.map (fun kv => numOf kv.2) ↔ ∃ (i : Nat) (a : Int), InRow rows i a ∧ y = i := by
  constructor
  · intro h
    obtain ⟨kv, hkv, rfl⟩ := List.mem_map.mp h
    obtain ⟨i, t, -, e, hin⟩ := V.val kv hkv
    exact ⟨i, kv.1, hin, by rw [e]; rfl⟩
  · rintro ⟨i, a, hin, rfl⟩
    obtain ⟨v, hv⟩ := valueAt_some (V.key i a hin.lt hin)
    obtain ⟨j, t, -, rfl, hj⟩ := V.at hv
    have := O.apart _ _ _ hj hin
    subst this
    exact List.mem_map.mpr ⟨_, valueAt_mem hv, rfl⟩
/-- the due places, and what the table tells -/
theorem places_eq (O : RowsOk many rows) (S : SpsFor rows sps) {f line n : Int} {g xs : List Int} {t : Int} (hn : LineFrom (Told rows sps f) line n) (hx : AscSet xs (Starts rows)) (hP : Placed rows f n xs xs.length g t) : g = if 0 ≤ n then (begs rows sps f n sps.length).1 else [] := by
  rw [starts_eq O S hx, List.length_map] at hP
  by_cases c : 0 ≤ n
  · rw [if_pos c]
    exact (placed_begs O S _ (Nat.le_refl _) hP).1
  · rw [if_neg c]
    refine placed_none (fun a h => ?_) hP
    have := told_pos O S (stmt_told S h)
    omega
theorem lines_eq {P : Int → Prop} {xs ys : List Int} (h : AscSet xs P) (h' : AscSet ys P) : xs = ys := asc_unique h.1 h'.1 fun n => (h.2 n).trans (h'.2 n).symm
end
end

/-! F22 -/
section
theorem IntsAre_take : ∀ {vs : List Value} {ns : List Int}, IntsAre vs ns → ∀ k, IntsAre (vs.take k) (ns.take k)
  | _, _, h, 0 => by rw [List.take_zero, List.take_zero]; exact .nil
  | _, _, .nil, k + 1 => by rw [List.take_nil, List.take_nil]; exact .nil
  | _, _, .cons n t r, k + 1 => by rw [List.take_succ_cons, List.take_succ_cons]; exact .cons n t (IntsAre_take r k)
theorem starts_pick {vs : List Value} (h : IntsAre vs [1000, 1100, 1040]) {r : Int} (h0 : 0 ≤ r) (h1 : r < 3) :
    ∃ (ss : List Int) (sv : List Value), slicePick vs.toArray none (some (1 + r)) none = sv.toArray ∧ IntsAre sv ss ∧ ss.Pairwise Far ∧ ss.length ≤ 3 ∧ ∀ u ∈ ss, 1000 ≤ u ∧ u ≤ 1100 := by
  obtain ⟨k, rfl⟩ := Int.eq_ofNat_of_zero_le h0
  have e := slicePick_upto' vs.toArray (1 + k)
  refine ⟨[1000, 1100, 1040].take (1 + k), vs.take (1 + k), ?_, IntsAre_take h _, ?_, ?_, fun u hu => ?_⟩
  · rw [show (1 : Int) + (k : Int) = ((1 + k : Nat) : Int) by lia, e]
  · refine List.Pairwise.sublist (List.take_sublist _ _) ?_
    simp [Far]
  · exact Nat.le_trans (List.length_take_le' ..) (by simp)
  · have := List.mem_of_mem_take hu
    simp at this; lia
theorem names_at {w : World} {T : Heap} (C : Cx (KK w) T) : ∃ o t1 t2 t3 n, T.get? 132 = some o ∧ o = { cls := .type "tuple", data := .seq [Value.str "a.c" t1, Value.str "b.c" t2, Value.str "c.c" t3].toArray n } := ⟨_, _, _, _, _, C.X 132 _ rfl, rfl⟩
theorem pick_names {vs : List Value} (hl : vs.length = 3) {many : Int} (h1 : 1 ≤ many) (h3 : many ≤ 3) : pickT vs none (some many) = vs.take many.toNat := by
  match vs, hl with
  | [a, b, c], _ =>
    obtain rfl | rfl | rfl : many = 1 ∨ many = 2 ∨ many = 3 := by lia
    all_goals rfl
theorem All2.take {α β : Type} {R : α → β → Prop} {as : List α} {bs : List β} (h : All2 R as bs) (k : Nat) : All2 R (as.take k) (bs.take k) := by
  induction h generalizing k with
  | nil => rw [List.take_nil, List.take_nil]; exact .nil
  | cons r _ ih =>
    cases k with
    | zero => rw [List.take_zero, List.take_zero]; exact .nil
    | succ k => rw [List.take_succ_cons, List.take_succ_cons]; exact .cons r (ih k)
theorem PRows.at {G : View} {v : Value} {rs : List Row} (x : PRows G v rs) : ∃ a vs, v = .ref a ∧ LstAt G a vs ∧ All2 (PRow G) vs rs := x
section
variable {w : World} {T : Heap} {A : Around} {G : View}
set_option pp.deepTerms false
set_option pp.deepTerms.threshold 3
set_option pp.maxSteps 1500
theorem law_ok {sl : Addr} {svs : List Value} {sns : List Int} (C : Cx (KK w) T) (hA : Ok A 12) (hs : LstAt G sl svs) (hi : IntsAre svs sns) (hz : svs.length ≤ 63) :
    Calls PR w T A (.ref 191) [.ref sl] G [] (fun _ _ v => v = .bool true) := by
  refine Calls.of_def C (binds := [("script", .ref sl)]) hA (by with_unfolding_all rfl) (by with_unfolding_all rfl) (by with_unfolding_all rfl) ?_ ?_ ?_
  · intro n x hx
    left
    simp only [List.mem_cons, List.not_mem_nil, or_false] at hx
    rcases hx with rfl <;> rfl
  · decide
  · clear hA; intro S L s A hA Q E F ret
    (refine execsK ?_; intro _ _ _; (with_reducible refine wpAny_Assign_Name ?_ (by with_unfolding_all (intros; rfl))); (with_reducible refine lstR ?_); (with_reducible refine wpAny_items_cons ?_ (by with_unfolding_all (intros; rfl))))
    refine compE (cl := []) (by rfl) (by rfl) (by decide) ?_
    ((with_reducible refine Subscript_ ?_); refine nameL F (by first | rfl | assumption) ?_; (with_reducible refine evSlice ?_); (with_reducible refine wpAny_evalPart_none ?_); (with_reducible refine wpAny_evalPart_some ?_); (with_reducible refine constI F ?_); clear F; intro t s F)
    refine sliceLm F (F.f.lstG hs) .none (.int _ _) (by lia) ?_
    clear F; intro l1 s G1 le1 hl1 F
    have hpk : ∃ us : List Value, slicePick svs.toArray none (some 60) none = us.toArray ∧ us.length ≤ 60 ∧ ∀ v ∈ us, ∃ n t, v = Value.int n t := by
      refine ⟨svs.take 60, ?_, by simp; lia, fun v hv => ?_⟩
      · have := slicePick_upto' svs.toArray 60
        simpa using this
      · obtain ⟨i, hi'⟩ := List.mem_iff_getElem?.mp (List.mem_of_mem_take hv)
        obtain ⟨n, t, e, _⟩ := hi.at i v hi'
        exact ⟨n, t, e⟩
    obtain ⟨us, hpk, hul, hui⟩ := hpk
    rw [hpk] at F
    have M := F.f.mfr (l1, PySem.W.listOf us.toArray 0) (.head _)
    obtain ⟨F', le'⟩ := F.f.freeze (M.resolve_left (fun h => nomatch h)) (fun h => nomatch h)
    replace F := (⟨F', F.r⟩ : Fs _ _ _ _ _ _ _)
    have hl : LstAt (ext G1 l1 (PySem.W.listOf us.toArray 0)) l1 us := ⟨_, ext_self .., rfl, _, rfl⟩
    clear F' M
    generalize ext G1 l1 (PySem.W.listOf us.toArray 0) = G2 at F hl le'
    let J : Nat → Nm → View → List Value → Prop := fun i m G' ys => (∀ v ∈ ys, ∃ n t, v = Value.int n t) ∧ ys.length ≤ i
    refine compLe hA.handled F hl (by lia) (fun _ _ _ _ _ _ _ _ q => goName q) (by rfl) (by decide) (fun n c h => nomatch h) (by simp) J ⟨fun v h => (nomatch h), Nat.le_refl _⟩ ?_ ?_
    · clear F
      intro i v C' b' m₁ G₁ mu₁ ys s E₁ hv le J₁ hT F
      obtain ⟨n, t0, rfl⟩ := hui v (List.mem_of_getElem? hv)
      ((with_reducible refine asgName ?_); refine storeL F ?_; clear F; intro s F)
      refine tests_nil ?_
      ((with_reducible refine ifT ?_); (with_reducible refine wpAny_BinOp ?_); refine nameL F (by first | rfl | assumption) ?_; (with_reducible refine constI F ?_); clear F; intro t s F)
      refine modI hA.handled F (by decide) ?_
      clear F; intro t s F
      refine ⟨_, _, Le.refl _, F, fun v h => ?_, by have := J₁.2; simp; lia⟩
      rcases List.mem_append.mp h with h | h
      · exact J₁.1 v h
      · rw [List.mem_singleton.mp h]; exact ⟨_, _, rfl⟩
    · clear F
      intro n0 m' G₁ G₂ ys s le J' le2 hD F
      have up : Le G G₂ := ((le1.trans le').trans le).trans le2
      obtain ⟨j1, j2⟩ := J'
      have j3 : ys.length < 1000 := by lia
      clear j2 J hl hul hui hpk hl1 le1 le' le le2 hs
      ((with_reducible refine wpAny_items_cons ?_ (by with_unfolding_all (intros; rfl))); (with_reducible refine constI F ?_); clear F; intro t s F; (with_reducible refine wpAny_items_cons ?_ (by with_unfolding_all (intros; rfl))); (with_reducible refine constI F ?_); clear F; intro t s F; (with_reducible refine wpAny_items_nil ?_))
      refine lst_endM F ?_
      clear F; intro well s F
      generalize hwo : PySem.W.listOf _ _ = o at F
      have hw : WellAt G₂ o := ⟨n0, ys, 0, 500, _, _, by rw [← hwo]; exact ⟨rfl, _, rfl⟩, hD, j1, Int.le_refl _, j3⟩
      clear hwo hD j1 j3
      (refine storeL F ?_; clear F; intro s F; (with_reducible refine next_ (by assumption) ?_); refine execsK ?_; intro _ _ _; (with_reducible refine wpAny_Assign_Name ?_ (by with_unfolding_all (intros; rfl))); (with_reducible refine wpAny_BinOp ?_); (with_reducible refine constI F ?_); clear F; intro t s F; (with_reducible refine Call_ ?_ (by with_unfolding_all (intros; rfl))); refine nameK C F (by rfl) ?_; refine callWith_K C.X (by rfl) ?_; (with_reducible refine wpAny_items_cons ?_ (by with_unfolding_all (intros; rfl))); refine nameL F (by first | rfl | assumption) ?_; (with_reducible refine wpAny_items_cons ?_ (by with_unfolding_all (intros; rfl))); (with_reducible refine constI F ?_); clear F; intro t s F; (with_reducible refine wpAny_items_nil ?_); refine inAnd C F ?_)
      refine drawR C (hA.mono (by decide)) hw (by decide) F ?_
      clear F hw; intro s G3 o r t le3 hw hr0 hr1 F
      ((with_reducible refine addI F ?_); clear F; intro t s F; refine storeL F ?_; clear F; intro s F; (with_reducible refine next_ (by assumption) ?_); refine execsK ?_; intro _ _ _; (with_reducible refine wpAny_Assign_Name ?_ (by with_unfolding_all (intros; rfl))); (with_reducible refine Subscript_ ?_); (with_reducible refine lstR ?_); (with_reducible refine wpAny_items_cons ?_ (by with_unfolding_all (intros; rfl))); (with_reducible refine constI F ?_); clear F; intro t s F; (with_reducible refine wpAny_items_cons ?_ (by with_unfolding_all (intros; rfl))); (with_reducible refine constI F ?_); clear F; intro t s F; (with_reducible refine wpAny_items_cons ?_ (by with_unfolding_all (intros; rfl))); (with_reducible refine constI F ?_); clear F; intro t s F; (with_reducible refine wpAny_items_nil ?_))
      refine lst_end F ?_
      clear F; intro l3 s G4 le4 hl3 F
      obtain ⟨vs3, hl3, hI3, hz3⟩ : ∃ vs3, G4 l3 = some (lstO vs3) ∧ IntsAre vs3 [1000, 1100, 1040] ∧ vs3.length ≤ 3 := ⟨_, hl3, .cons _ _ (.cons _ _ (.cons _ _ .nil)), Nat.le_refl _⟩
      ((with_reducible refine evSlice ?_); (with_reducible refine wpAny_evalPart_none ?_); (with_reducible refine wpAny_evalPart_some ?_); (with_reducible refine wpAny_BinOp ?_); (with_reducible refine constI F ?_); clear F; intro t s F; (with_reducible refine Call_ ?_ (by with_unfolding_all (intros; rfl))); refine nameK C F (by rfl) ?_; refine callWith_K C.X (by rfl) ?_; (with_reducible refine wpAny_items_cons ?_ (by with_unfolding_all (intros; rfl))); refine nameL F (by first | rfl | assumption) ?_; (with_reducible refine wpAny_items_cons ?_ (by with_unfolding_all (intros; rfl))); (with_reducible refine constI F ?_); clear F; intro t s F; (with_reducible refine wpAny_items_nil ?_); refine inAnd C F ?_)
      refine drawR C (hA.mono (by decide)) (hw.mono le4) (by decide) F ?_
      clear F hw; intro s G5 o r2 t2 le5 hw hr20 hr21 F
      ((with_reducible refine addI F ?_); clear F; intro t s F)
      refine sliceLm F (F.f.lstG ⟨_, le5 _ _ hl3, isL_lst _⟩) .none (.int _ _) (by lia) ?_
      clear F; intro stl s G6 le6 hstl F
      obtain ⟨ss, sv, hss, hsi, hs1, hs2, hs3⟩ := starts_pick hI3 hr20 hr21
      rw [hss] at F
      clear hss hl3 hI3 hz3
      replace hw := hw.mono le6
      replace F := F.perm (List.Perm.swap _ _ _)
      have up6 : Le G G6 := (((up.trans le3).trans le4).trans le5).trans le6
      clear up le3 le4 le5 le6 hr20 hr21 hstl
      generalize hmany : (1 : Int) + r = many at F
      have hm1 : 1 ≤ many := by lia
      have hm3 : many ≤ 3 := by lia
      clear hmany hr0 hr1
      (refine storeL F ?_; clear F; intro s F; (with_reducible refine next_ (by assumption) ?_); refine execsK ?_; intro _ _ _; (with_reducible refine wpAny_Assign_Name ?_ (by with_unfolding_all (intros; rfl))); (with_reducible refine lstR ?_); (with_reducible refine wpAny_items_nil ?_))
      refine lst_end F ?_
      clear F; intro pl s G7 le7 hpl F
      (refine storeC F ?_; clear F; intro s F; (with_reducible refine next_ (by assumption) ?_); refine execsK ?_; intro _ _ _)
      let J : Nat → Nm → Nm → View → Mu → Prop := fun k m cm G' mu => E8 fun (o : Obj) (vs : List Value) (n : Nat) (rem used : List Int) (v : Value) (rows : List Row) (tm : Tok) => A13 (mu = [(well, o), (stl, PySem.W.listOf vs.toArray n)]) (WellAt G' o) (IntsAre vs rem) ((used ++ rem).Pairwise Far) (used.length + rem.length ≤ 3) ((∀ u ∈ used ++ rem, 1000 ≤ u ∧ u ≤ 1100)) (PRows G' v rows) (Inv many used rows) (k = rem.length) (m "well" = some (.ref well)) (m "many" = some (.int many tm)) (m "starts" = some (.ref stl)) (cm "plain_rows" = some v)
      refine whileT F J (fun k m cm G' mu => J k m cm G' mu ∧ k ≠ 0) (fun k m cm G' mu => J k m cm G' mu ∧ k = 0) ss.length
        ⟨o, sv, _, ss, [], .ref pl, [], _, rfl, hw.mono le7, hsi, hs1, by simp; lia, hs3, ⟨pl, [], rfl, ⟨_, hpl, isL_lst _⟩, .nil⟩, Inv.nil many, rfl, rfl, rfl, rfl, rfl⟩ ?_ ?_ ?_
      · clear F hw hsi hs1 hs2 hs3 hpl
        rintro k m₁ cm₁ G₁ mu₁ s E₁ le ⟨o, vs, n, rem, used, v, rows, tm, rfl, hw, hvs, hfar, hlen, hlim, hrows, hinv, rfl, mw, mm, ms, mp⟩ F
        ((with_reducible refine wpAny_isTrue_Compare1 ?_ (by with_unfolding_all (intros; rfl))); refine nameL F (by first | rfl | assumption) ?_; (with_reducible refine lstR ?_); (with_reducible refine wpAny_items_nil ?_))
        refine lst_end F ?_
        clear F; intro e0 s G8 le8 he0 F
        refine ne_intsK (F.f.lstM (.tail _ (.head _)) ⟨rfl, _, rfl⟩) hvs (F.f.lstG ⟨_, he0, isL_lst _⟩) .nil (by have := hA.units; lia) ?_
        ((with_reducible refine wpAny_truthy_bool ?_))
        refine ⟨G8, _, le8, F, fun e => ⟨⟨o, vs, n, rem, used, v, rows, tm, rfl, hw.mono le8, hvs, hfar, hlen, hlim, hrows.mono le8, hinv, rfl, mw, mm, ms, mp⟩, ?_⟩, fun e => ⟨⟨o, vs, n, rem, used, v, rows, tm, rfl, hw.mono le8, hvs, hfar, hlen, hlim, hrows.mono le8, hinv, rfl, mw, mm, ms, mp⟩, ?_⟩⟩
        · intro h0
          rw [List.eq_nil_of_length_eq_zero h0] at e; simp at e
        · have : rem = [] := by simpa using e
          rw [this]; rfl
      · clear F hw hsi hs1 hs2 hs3 hpl
        rintro k m₁ cm₁ G₁ mu₁ s E₁ le ⟨⟨o, vs, n, rem, used, v, rows, tm, rfl, hw, hvs, hfar, hlen, hlim, hrows, hinv, rfl, mw, mm, ms, mp⟩, hk⟩ F
        intro _ _
        have hvl := hvs.length
        have hvz : vs.length < 2 ^ 62 := by lia
        (refine execsK ?_; intro _ _ _; (with_reducible refine wpAny_Assign_Name ?_ (by with_unfolding_all (intros; rfl))); (with_reducible refine wpAny_BinOp ?_); refine nameC F (by first | rfl | assumption) ?_; (with_reducible refine Call_ ?_ (by with_unfolding_all (intros; rfl))); refine nameK C F (by rfl) ?_; refine callWith_K C.X (by rfl) ?_; (with_reducible refine wpAny_items_cons ?_ (by with_unfolding_all (intros; rfl))); refine nameL F (by first | rfl | assumption) ?_; (with_reducible refine wpAny_items_cons ?_ (by with_unfolding_all (intros; rfl))); (with_reducible refine MethodCall_ ?_ (by with_unfolding_all (intros; rfl))); refine nameL F (by first | rfl | assumption) ?_)
        refine methList (F.f.mus (stl, PySem.W.listOf vs.toArray n) (.tail _ (.head _))).1 PySem.F.slot_list_pop PySem.F.type_list_pop ?_
        ((with_reducible refine callWith_method1 ?_ (by with_unfolding_all (intros; rfl)) (by with_unfolding_all (intros; rfl))); (with_reducible refine wpAny_items_cons ?_ (by with_unfolding_all (intros; rfl))); (with_reducible refine Call_ ?_ (by with_unfolding_all (intros; rfl))); refine nameK C F (by rfl) ?_; refine callWith_K C.X (by rfl) ?_; (with_reducible refine wpAny_items_cons ?_ (by with_unfolding_all (intros; rfl))); refine nameL F (by first | rfl | assumption) ?_; (with_reducible refine wpAny_items_cons ?_ (by with_unfolding_all (intros; rfl))); (with_reducible refine Call_ ?_ (by with_unfolding_all (intros; rfl))); refine nameB C F (by rfl) (by first | with_reducible exact PySem.boot_len | with_reducible exact PyProof.Rows.boot_range | with_reducible exact PyProof.Rows.boot_sorted | with_reducible exact PyProof.Rows.boot_list | with_reducible exact PyProof.Rows.boot_enumerate) (by decide) ?_; (with_reducible refine PyProof.Rows.callWith_builtin1 ?_ (by with_unfolding_all (intros; rfl)) (by with_unfolding_all (intros; rfl))); (with_reducible refine wpAny_items_cons ?_ (by with_unfolding_all (intros; rfl))); refine nameL F (by first | rfl | assumption) ?_; (with_reducible refine wpAny_items_nil ?_))
        refine lenL F (F.f.lstM (.tail _ (.head _)) ⟨rfl, _, rfl⟩) hvz ?_
        clear F; intro t s F
        ((with_reducible refine wpAny_items_nil ?_); refine inAnd C F ?_)
        refine drawR C (hA.mono (by decide)) hw (by lia) F ?_
        clear F hw; intro s G8 o ri ti le8 hw hr0 hr1 F
        ((with_reducible refine wpAny_items_nil ?_))
        obtain ⟨ri, rfl⟩ := Int.eq_ofNat_of_zero_le hr0
        have hri : ri < rem.length := by lia
        obtain ⟨p, y, q, rfl, hpl⟩ : ∃ p y q, rem = p ++ y :: q ∧ p.length = ri := ⟨rem.take ri, rem[ri], rem.drop (ri + 1), by rw [List.getElem_cons_drop, List.take_append_drop], by rw [List.length_take]; lia⟩
        obtain ⟨vp, ty, vq, rfl, hvp, hvs'⟩ := ints_split hvs
        refine popM (pre := [(well, o)]) F (by lia) (by lia) ?_
        clear F; intro s F
        ((with_reducible refine wpAny_items_cons ?_ (by with_unfolding_all (intros; rfl))); refine nameL F (by first | rfl | assumption) ?_; (with_reducible refine wpAny_items_nil ?_); refine inAnd C F ?_)
        have hy := hlim y (by simp)
        refine Fs.calls (mu₁ := [(well, o)]) (seq_ok C (hA.mono (by decide)) hw hm1 (by lia) (by lia)) F ?_
        clear F; rintro s G9 mu' v2 le9 F e9 ⟨o, blk, rfl, hw, hblk, hseq⟩
        skip
        obtain ⟨pa, pvs, rfl, hpa, hpv⟩ := hrows.mono (le8.trans le9)
        obtain ⟨pb, bvs, rfl, hpb, hbv⟩ := hblk
        have hk1 := inv_one hseq
        have hpl1 := hpv.len; have hpl2 := hbv.len; have hpl3 := hinv.len; have hpl4 := hk1.len
        refine addL F (F.f.lstG hpa) (F.f.lstG hpb) (by simp at hpl4 hlen; lia) ?_
        clear F; intro pc s G10 le10 hpc F
        (refine storeC F ?_; clear F; intro s F; (with_reducible refine next_ (by assumption) ?_); (with_reducible refine wpAny_execs_nil ?_); (with_reducible refine lp_n (by assumption) ?_))
        obtain ⟨far1, far2⟩ := far_pop hfar
        have hsub : ∀ u, u ∈ used ++ [y] ++ (p ++ q) → u ∈ used ++ (p ++ y :: q) := fun u hu => by
          simp only [List.mem_append, List.mem_cons, List.not_mem_nil, or_false] at hu ⊢
          rcases hu with (h | h) | (h | h)
          · exact .inl h
          · exact .inr (.inr (.inl h))
          · exact .inr (.inl h)
          · exact .inr (.inr (.inr h))
        refine ⟨(p ++ q).length, _, _, _, _, by simp, (le8.trans le9).trans le10, F, o, vp ++ vq, _, p ++ q, used ++ [y], .ref pc, rows ++ blk, tm, rfl, hw.mono le10, hvs', far1, by simp at hlen ⊢; lia, fun u hu => hlim u (hsub u hu), ⟨pc, _, rfl, ⟨_, hpc, isL_lst _⟩, (hpv.mono (PRow.mono le10)).app (hbv.mono (PRow.mono le10))⟩,
          hinv.app hk1 (fun u hu x hx => by rw [List.mem_singleton.mp hx]; exact far2 u hu), rfl, mw, mm, ms, rfl⟩
      · clear F hw hsi hs1 hs2 hs3 hpl
        rintro k m₁ cm₁ G₁ mu₁ s le ⟨⟨o, vs, n, rem, used, v, rows, tm, rfl, hw, hvs, hfar, hlen, hlim, hrows, hinv, rfl, mw, mm, ms, mp⟩, hk⟩ F
        have hO : RowsOk many rows := hinv.ok (by lia) (fun u hu => hlim u (List.mem_append_left _ hu))
        have up8 : Le G G₁ := (up6.trans le7).trans le
        clear hinv hlim hfar hvs J up6 le7 le
        ((with_reducible refine next_ (by assumption) ?_); refine execsK ?_; intro _ _ _)
        replace F : Fs _ _ m₁ cm₁ G₁ [(well, o)] s := ⟨(F.perm (List.Perm.swap _ _ _)).f.drop (fun h => nomatch h), F.r⟩
        obtain ⟨pla, pvs, rfl, hpla, hpvs⟩ := hrows
        have hpl := hpvs.len
        have hrl := hO.len
        refine compA (cl := []) (by rfl) (by rfl) (by rfl) (by decide) ?_
        (refine nameC F (by first | rfl | assumption) ?_)
        let J : Nat → Nm → View → List Value → Prop := fun i m G' ys => All2 (RowAt G') ys (rows.take i)
        refine compLa hA.handled F hpla (by lia) (fun i I v s Q E hit hv q => goTup hit (by obtain ⟨r, hr, a, ta1, ta2, ta3, rfl, hta⟩ := hpvs.get hv; exact ⟨_, rfl⟩) q) (by rfl) (by decide) (fun n c h => nomatch h) (by simp) J .nil ?_ ?_
        · clear F hw
          intro i v C' b' m₂ G₂ mu₂ ys s E₁ hv le J₁ hT F
          obtain ⟨r, hr, a, ta1, ta2, ta3, rfl, hta⟩ := hpvs.get hv
          replace hta := hta.mono le
          have htk : rows.take (i + 1) = rows.take i ++ [r] := by rw [List.take_add_one, hr]; rfl
          have C : Cx (KK w) b'.T := by rw [hT]; exact C
          refine unpackT hA.handled F hta (by rfl) (by rfl) ?_
          clear F; intro s F
          (refine inOrder_cons ?_; (with_reducible refine asgName ?_); refine storeL F ?_; clear F; intro s F; refine inOrder_cons ?_; (with_reducible refine asgName ?_); refine storeL F ?_; clear F; intro s F; refine inOrder_cons ?_; (with_reducible refine asgName ?_); refine storeL F ?_; clear F; intro s F; refine inOrder_cons ?_; (with_reducible refine asgName ?_); refine storeL F ?_; clear F; intro s F; refine inOrder_cons ?_; (with_reducible refine asgName ?_); refine storeL F ?_; clear F; intro s F; refine inOrder_nil ?_)
          refine tests_nil ?_
          ((with_reducible refine ifT ?_); (with_reducible refine Call_ ?_ (by with_unfolding_all (intros; rfl))); refine nameK C F (by rfl) ?_; refine callWith_K C.X (by rfl) ?_; (with_reducible refine wpAny_items_cons ?_ (by with_unfolding_all (intros; rfl))); refine nameL F (by first | rfl | assumption) ?_; (with_reducible refine wpAny_items_cons ?_ (by with_unfolding_all (intros; rfl))); refine nameL F (by first | rfl | assumption) ?_; (with_reducible refine wpAny_items_cons ?_ (by with_unfolding_all (intros; rfl))); refine nameL F (by first | rfl | assumption) ?_; (with_reducible refine wpAny_items_cons ?_ (by with_unfolding_all (intros; rfl))); refine nameL F (by first | rfl | assumption) ?_; (with_reducible refine wpAny_items_cons ?_ (by with_unfolding_all (intros; rfl))); refine nameL F (by first | rfl | assumption) ?_; (with_reducible refine wpAny_items_nil ?_); refine inAnd C F ?_)
          refine Fs.calls0 (row_new (r := r) C (hA.mono (by decide))) F ?_
          clear F; intro s G3 v3 le3 F hv3
          refine ⟨_, _, le3, F, ?_⟩
          show All2 _ _ _
          rw [htk]
          exact (J₁.mono (RowAt.mono le3)).app (.one hv3)
        · clear F
          intro rla m' G₂ G₃ rvs s le J' le' hD F
          have hrv : All2 (RowAt G₂) rvs rows := by
            have : All2 _ _ _ := J'
            rwa [hpl, List.take_length] at this
          replace hrv := hrv.mono (RowAt.mono le')
          have hrows : PRows G₃ (.ref pla) rows := ⟨pla, pvs, rfl, hpla.mono (le.trans le'), hpvs.mono (PRow.mono (le.trans le'))⟩
          replace hw := hw.mono (le.trans le')
          have up9 : Le G G₃ := (up8.trans le).trans le'
          clear J hpla hpvs le le' up8 J'
          ((with_reducible refine next_ (by assumption) ?_); refine execsK ?_; intro _ _ _; (with_reducible refine wpAny_Assign_Name ?_ (by with_unfolding_all (intros; rfl))); (with_reducible refine Call_ ?_ (by with_unfolding_all (intros; rfl))); refine nameK C F (by rfl) ?_; refine callWith_K C.X (by rfl) ?_; (with_reducible refine wpAny_items_cons ?_ (by with_unfolding_all (intros; rfl))); (with_reducible refine Call_ ?_ (by with_unfolding_all (intros; rfl))); refine nameB C F (by rfl) (by first | with_reducible exact PySem.boot_len | with_reducible exact PyProof.Rows.boot_range | with_reducible exact PyProof.Rows.boot_sorted | with_reducible exact PyProof.Rows.boot_list | with_reducible exact PyProof.Rows.boot_enumerate) (by decide) ?_; (with_reducible refine PyProof.Rows.callWith_type1 ?_ (by with_unfolding_all (intros; rfl)) (by with_unfolding_all (intros; rfl))); (with_reducible refine wpAny_items_cons ?_ (by with_unfolding_all (intros; rfl))); (with_reducible refine Subscript_ ?_); refine nameK C F (by rfl) ?_; (with_reducible refine evSlice ?_); (with_reducible refine wpAny_evalPart_none ?_); (with_reducible refine wpAny_evalPart_some ?_); refine nameL F (by first | rfl | assumption) ?_)
          obtain ⟨no, nt1, nt2, nt3, nn, hno, eno⟩ := names_at C
          have hN : TupAt G₃ 132 [Value.str "a.c" nt1, Value.str "b.c" nt2, Value.str "c.c" nt3] := ⟨nn, by rw [F.f.top _ _ hno, eno]⟩
          have hNs : All2 StrIs [Value.str "a.c" nt1, Value.str "b.c" nt2, Value.str "c.c" nt3] lawNames := .cons ⟨_, rfl⟩ (.cons ⟨_, rfl⟩ (.cons ⟨_, rfl⟩ .nil))
          have hNl : [Value.str "a.c" nt1, Value.str "b.c" nt2, Value.str "c.c" nt3].length = 3 := rfl
          clear hno eno
          generalize [Value.str "a.c" nt1, Value.str "b.c" nt2, Value.str "c.c" nt3] = nvs at hN hNs hNl
          refine sliceT (t := 132) F hN .none (.int _ _) (by lia) ?_
          clear F; intro nz s G4 le4 hnz F
          rw [pick_names hNl hm1 hm3] at hnz
          ((with_reducible refine wpAny_items_nil ?_))
          refine listT F hnz (by simp; lia) ?_
          clear F; intro fl s G5 le5 hfl F
          ((with_reducible refine wpAny_items_cons ?_ (by with_unfolding_all (intros; rfl))); refine nameL F (by first | rfl | assumption) ?_; (with_reducible refine wpAny_items_nil ?_); refine inAnd C F ?_)
          have hNt := All2.take hNs many.toNat
          refine Fs.calls0 (table_new C (hA.mono (by decide)) hfl hNt ((hD.mono le4).mono le5) (hrv.mono (RowAt.mono (le4.trans le5))) (by lia) (by rw [List.length_take]; lia) (raw_uni hO)) F ?_
          clear F; rintro s G6 _ le6 F ⟨tab, sps, rfl, H, SF⟩
          (refine storeL F ?_; clear F; intro s F; (with_reducible refine next_ (by assumption) ?_); refine execsK ?_; intro _ _ _; (with_reducible refine wpAny_Assign_Name ?_ (by with_unfolding_all (intros; rfl))); (with_reducible refine Call_ ?_ (by with_unfolding_all (intros; rfl))); refine nameK C F (by rfl) ?_; refine callWith_K C.X (by rfl) ?_; (with_reducible refine wpAny_items_cons ?_ (by with_unfolding_all (intros; rfl))); refine nameC F (by first | rfl | assumption) ?_; (with_reducible refine wpAny_items_nil ?_); refine inAnd C F ?_)
          refine Fs.calls0 (cover_ok C (hA.mono (by decide)) (hrows.mono ((le4.trans le5).trans le6)) hO) F ?_
          clear F; rintro s G7 _ le7 F ⟨cov, kvs, rfl, D, V, hkz⟩
          replace H := H.mono le7
          replace hrows := hrows.mono (((le4.trans le5).trans le6).trans le7)
          replace hw := hw.mono (((le4.trans le5).trans le6).trans le7)
          replace hN := hN.mono (((le4.trans le5).trans le6).trans le7)
          replace hD := hD.mono (((le4.trans le5).trans le6).trans le7)
          replace up9 := up9.trans (((le4.trans le5).trans le6).trans le7)
          clear hnz hfl le4 le5 le6 le7 hrv hlen hk
          (refine storeL F ?_; clear F; intro s F; (with_reducible refine next_ (by assumption) ?_); refine execsK ?_; intro _ _ _; (with_reducible refine For_ ?_ (by with_unfolding_all (intros; rfl))); intro _ _; (with_reducible refine Call_ ?_ (by with_unfolding_all (intros; rfl))); refine nameB C F (by rfl) (by first | with_reducible exact PySem.boot_len | with_reducible exact PyProof.Rows.boot_range | with_reducible exact PyProof.Rows.boot_sorted | with_reducible exact PyProof.Rows.boot_list | with_reducible exact PyProof.Rows.boot_enumerate) (by decide) ?_; (with_reducible refine PyProof.Rows.callWith_type1 ?_ (by with_unfolding_all (intros; rfl)) (by with_unfolding_all (intros; rfl))); (with_reducible refine wpAny_items_cons ?_ (by with_unfolding_all (intros; rfl))); (with_reducible refine constI F ?_); clear F; intro t s F; (with_reducible refine wpAny_items_nil ?_))
          refine rng1 F ?_
          clear F; intro rg s G8 le8 hrg F
          replace H := H.mono le8; replace hrows := hrows.mono le8; replace hw := hw.mono le8; replace hN := hN.mono le8; replace hD := hD.mono le8; replace D := D.mono le8; replace up9 := up9.trans le8
          let J : Nat → Nm → Nm → View → Mu → Prop := fun i m cm G' mu => ∃ o, A8 (mu = [(well, o)]) (WellAt G' o) (m "well" = some (.ref well)) (m "many" = some (.int many tm)) (m "rows" = some (.ref rla)) (m "table" = some (.ref tab)) (m "cover" = some (.ref cov)) (cm "plain_rows" = some (.ref pla))
          refine loopR hA.handled F hrg (by decide) (by decide) (by lia) (by lia) J ⟨o, rfl, hw, mw, mm, rfl, rfl, rfl, mp⟩ ?_ ?_
          · clear F hw mw mm ms mp
            rintro i ti m₂ cm₂ G₉ mu₂ p s E₁ hi' le ⟨o, rfl, hw, mw, mm, mr, mt, mc, mp⟩ F
            intro _ _
            replace H := H.mono le; replace hrows := hrows.mono le; replace hD := hD.mono le; replace D := D.mono le
            (refine execsK ?_; intro _ _ _; (with_reducible refine wpAny_Assign_Name ?_ (by with_unfolding_all (intros; rfl))); (with_reducible refine wpAny_BinOp ?_); (with_reducible refine constI F ?_); clear F; intro t s F; (with_reducible refine Call_ ?_ (by with_unfolding_all (intros; rfl))); refine nameK C F (by rfl) ?_; refine callWith_K C.X (by rfl) ?_; (with_reducible refine wpAny_items_cons ?_ (by with_unfolding_all (intros; rfl))); refine nameL F (by first | rfl | assumption) ?_; (with_reducible refine wpAny_items_cons ?_ (by with_unfolding_all (intros; rfl))); (with_reducible refine constI F ?_); clear F; intro t s F; (with_reducible refine wpAny_items_nil ?_); refine inAnd C F ?_)
            refine drawR C (hA.mono (by decide)) hw (by decide) F ?_
            clear F hw; intro s G10 o r3 t3 le10 hw hr30 hr31 F
            replace H := H.mono le10; replace hrows := hrows.mono le10; replace hD := hD.mono le10; replace D := D.mono le10
            ((with_reducible refine addI F ?_); clear F; intro t s F; refine storeL F ?_; clear F; intro s F; (with_reducible refine next_ (by assumption) ?_); refine execsK ?_; intro _ _ _)
            refine ifS F (fun G' mu' c => Le G10 G' ∧ mu' = [(well, o)] ++ [p] ∧ (c = true → kvs.length ≠ 0)) ?_ ?_
            · intro E
              ((with_reducible refine wpAny_isTrue_BoolOp ?_); (with_reducible refine wpAny_allTrue_And_cons ?_); (with_reducible refine wpAny_isTrue_Compare1 ?_ (by with_unfolding_all (intros; rfl))); refine nameL F (by first | rfl | assumption) ?_; (with_reducible refine constI F ?_); clear F; intro t s F; (with_reducible refine PyProof.Rows.gt_int ?_); (with_reducible refine wpAny_truthy_bool ?_))
              refine splitB (fun hc => ?_) (fun hc => ?_)
              · ((with_reducible refine wpAny_allTrue_And_cons ?_); (with_reducible refine wpAny_isTrue_Compare1 ?_ (by with_unfolding_all (intros; rfl))); refine nameL F (by first | rfl | assumption) ?_)
                refine dictE (prog := PR) (w := w) (sys_lt C) F ?_
                clear F; intro e0 s o0 hds ho0 F
                have M := F.f.mfr (e0, o0) (.head _)
                obtain ⟨F', le'⟩ := F.f.freeze (M.resolve_left (fun h => nomatch h)) (fun h => nomatch h)
                replace F := (⟨F', F.r⟩ : Fs _ _ _ _ _ _ _)
                refine neD0 (prog := PR) (w := w) hA F (D.mono le') ⟨hds, o0, ext_self .., ho0⟩ ?_
                ((with_reducible refine wpAny_truthy_bool ?_))
                refine splitB (fun hc => ?_) (fun hc => ?_)
                · ((with_reducible refine wpAny_allTrue_And_nil ?_))
                  exact ⟨_, _, le', F, le', rfl, fun _ => by simpa using hc⟩
                · exact ⟨_, _, le', F, le', rfl, fun e => nomatch e⟩
              · exact ⟨_, _, Le.refl _, F, Le.refl _, rfl, fun e => nomatch e⟩
            clear F
            rintro c G11 _ s - F ⟨le11, rfl, hc⟩
            replace H := H.mono le11; replace hrows := hrows.mono le11; replace hD := hD.mono le11; replace D := D.mono le11; replace hw := hw.mono le11
            refine joinSt2 F (fun m' cm' G' mu' => ∃ o a ta, mu' = [(well, o)] ++ [p] ∧ Le G11 G' ∧ WellAt G' o ∧ m' "address" = some (.int a ta) ∧ m' "well" = some (.ref well) ∧ m' "many" = some (.int many tm) ∧ m' "rows" = some (.ref rla) ∧ m' "table" = some (.ref tab) ∧ m' "cover" = some (.ref cov) ∧ cm' "plain_rows" = some (.ref pla)) (fun hd => ?_) (fun hd => ?_) ?_
            · have hne := hc hd
              (refine execsK ?_; intro _ _ _; (with_reducible refine wpAny_Assign_Name ?_ (by with_unfolding_all (intros; rfl))); (with_reducible refine Subscript_ ?_); (with_reducible refine Call_ ?_ (by with_unfolding_all (intros; rfl))); refine nameB C F (by rfl) (by first | with_reducible exact PySem.boot_len | with_reducible exact PyProof.Rows.boot_range | with_reducible exact PyProof.Rows.boot_sorted | with_reducible exact PyProof.Rows.boot_list | with_reducible exact PyProof.Rows.boot_enumerate) (by decide) ?_; (with_reducible refine PyProof.Rows.callWith_builtin1 ?_ (by with_unfolding_all (intros; rfl)) (by with_unfolding_all (intros; rfl))); (with_reducible refine wpAny_items_cons ?_ (by with_unfolding_all (intros; rfl))); refine nameL F (by first | rfl | assumption) ?_; (with_reducible refine wpAny_items_nil ?_))
              refine sortedDict hA.handled F D (by lia) ?_
              clear F; intro a s G12 us ys le12 hus hints hpm hso F
              ((with_reducible refine Call_ ?_ (by with_unfolding_all (intros; rfl))); refine nameK C F (by rfl) ?_; refine callWith_K C.X (by rfl) ?_; (with_reducible refine wpAny_items_cons ?_ (by with_unfolding_all (intros; rfl))); refine nameL F (by first | rfl | assumption) ?_; (with_reducible refine wpAny_items_cons ?_ (by with_unfolding_all (intros; rfl))); (with_reducible refine Call_ ?_ (by with_unfolding_all (intros; rfl))); refine nameB C F (by rfl) (by first | with_reducible exact PySem.boot_len | with_reducible exact PyProof.Rows.boot_range | with_reducible exact PyProof.Rows.boot_sorted | with_reducible exact PyProof.Rows.boot_list | with_reducible exact PyProof.Rows.boot_enumerate) (by decide) ?_; (with_reducible refine PyProof.Rows.callWith_builtin1 ?_ (by with_unfolding_all (intros; rfl)) (by with_unfolding_all (intros; rfl))); (with_reducible refine wpAny_items_cons ?_ (by with_unfolding_all (intros; rfl))); refine nameL F (by first | rfl | assumption) ?_; (with_reducible refine wpAny_items_nil ?_))
              refine lenD F (D.mono le12) (by lia) ?_
              clear F; intro t s F
              ((with_reducible refine wpAny_items_nil ?_); refine inAnd C F ?_)
              refine drawR C (hA.mono (by decide)) (hw.mono le12) (by lia) F ?_
              clear F hw; intro s G13 o r4 t4 le13 hw hr40 hr41 F
              have hul := hints.length
              have hyl : ys.length = kvs.length := by have := hpm.length_eq; rwa [List.length_map] at this
              obtain ⟨n4, t5, e4, _⟩ := hints.at r4.toNat _ (List.getElem?_eq_getElem (by lia))
              refine itemL (F.f.lstG (hus.mono le13)) hr40 (by lia) (List.getElem?_eq_getElem (by lia)) ?_
              rw [e4]
              (refine storeL F ?_; clear F; intro s F; (with_reducible refine next_ (by assumption) ?_); (with_reducible refine wpAny_execs_nil ?_))
              refine ⟨rfl, _, _, _, _, ?_, F⟩
              exact ⟨o, n4, t5, rfl, le12.trans le13, hw, rfl, mw, mm, mr, mt, mc, mp⟩
            · ((with_reducible refine wpAny_execs_nil ?_))
              refine ⟨rfl, _, _, _, _, ?_, F⟩
              exact ⟨o, _, _, rfl, Le.refl _, hw, rfl, mw, mm, mr, mt, mc, mp⟩
            clear F hw mw mm mr mt mc mp
            rintro m₃ cm₃ G12 _ s ⟨o, a, ta, rfl, le12, hw, ma, mw, mm, mr, mt, mc, mp⟩ F
            replace H := H.mono le12; replace hrows := hrows.mono le12; replace hD := hD.mono le12; replace D := D.mono le12
            ((with_reducible refine next_ (by assumption) ?_); refine execsK ?_; intro _ _ _; refine wpAny_If ?_; (with_reducible refine wpAny_isTrue_Not ?_); (with_reducible refine wpAny_isTrue_value ?_ (by with_unfolding_all (intros; rfl))); (with_reducible refine Call_ ?_ (by with_unfolding_all (intros; rfl))); refine nameK C F (by rfl) ?_; refine callWith_K C.X (by rfl) ?_; (with_reducible refine wpAny_items_cons ?_ (by with_unfolding_all (intros; rfl))); refine nameL F (by first | rfl | assumption) ?_; (with_reducible refine wpAny_items_cons ?_ (by with_unfolding_all (intros; rfl))); refine nameL F (by first | rfl | assumption) ?_; (with_reducible refine wpAny_items_cons ?_ (by with_unfolding_all (intros; rfl))); refine nameC F (by first | rfl | assumption) ?_; (with_reducible refine wpAny_items_cons ?_ (by with_unfolding_all (intros; rfl))); refine nameL F (by first | rfl | assumption) ?_; (with_reducible refine wpAny_items_cons ?_ (by with_unfolding_all (intros; rfl))); refine nameL F (by first | rfl | assumption) ?_; (with_reducible refine wpAny_items_nil ?_); refine inAnd C F ?_)
            refine Fs.calls0 (right_ok C (hA.mono (by decide)) H hD hrows hO D V SF) F ?_
            clear F; rintro s G13 _ le13 F rfl
            ((with_reducible refine wpAny_truthy_bool ?_); refine ifF ?_; (with_reducible refine wpAny_execs_nil ?_); (with_reducible refine next_ (by assumption) ?_); (with_reducible refine wpAny_execs_nil ?_); (with_reducible refine lp_n (by assumption) ?_))
            exact ⟨_, _, _, [(well, o)], ((le10.trans le11).trans le12).trans le13, F, o, rfl, hw.mono le13, mw, mm, mr, mt, mc, mp⟩
          · clear F hw mw mm ms mp
            rintro m₂ cm₂ G₉ mu₂ s le ⟨o, rfl, hw, mw, mm, mr, mt, mc, mp⟩ F
            replace H := H.mono le; replace hrows := hrows.mono le; replace hN := hN.mono le; replace D := D.mono le; replace up9 := up9.trans le
            clear J hD
            ((with_reducible refine fo_ (by assumption) ?_); (with_reducible refine next_ (by assumption) ?_); refine execsK ?_; intro _ _ _; (with_reducible refine For_ ?_ (by with_unfolding_all (intros; rfl))); intro _ _; (with_reducible refine Call_ ?_ (by with_unfolding_all (intros; rfl))); refine nameB C F (by rfl) (by first | with_reducible exact PySem.boot_len | with_reducible exact PyProof.Rows.boot_range | with_reducible exact PyProof.Rows.boot_sorted | with_reducible exact PyProof.Rows.boot_list | with_reducible exact PyProof.Rows.boot_enumerate) (by decide) ?_; (with_reducible refine PyProof.Rows.callWith_type1 ?_ (by with_unfolding_all (intros; rfl)) (by with_unfolding_all (intros; rfl))); (with_reducible refine wpAny_items_cons ?_ (by with_unfolding_all (intros; rfl))); refine nameK C F (by rfl) ?_; (with_reducible refine wpAny_items_nil ?_))
            let J : Nat → Nm → Nm → View → Mu → Prop := fun i m cm G' mu => ∃ o, A7 (mu = [(well, o)]) (WellAt G' o) (m "well" = some (.ref well)) (m "many" = some (.int many tm)) (m "table" = some (.ref tab)) (m "cover" = some (.ref cov)) (cm "plain_rows" = some (.ref pla))
            refine loopE hA.handled F hN J ⟨o, rfl, hw, mw, mm, mt, mc, mp⟩ ?_ ?_
            · clear F hw mw mm mr mt mc mp
              rintro i v u m₃ cm₃ G10 mu₃ p q s E₁ hv le10 ⟨o, rfl, hw, mw, mm, mt, mc, mp⟩ F
              intro _ _
              replace H := H.mono le10; replace hrows := hrows.mono le10; replace D := D.mono le10
              obtain ⟨nm, hnm, tn, rfl⟩ := hNs.get hv
              have hfile := fileNo_names hm1 hm3 hnm
              have hi3 : i < 3 := (List.getElem?_eq_some_iff.mp hnm).1
              generalize hfn : fileNo (lawNames.take many.toNat) nm = f at hfile
              (refine inOrder_cons ?_; (with_reducible refine asgName ?_); refine storeL F ?_; clear F; intro s F; refine inOrder_cons ?_; (with_reducible refine asgName ?_); refine storeL F ?_; clear F; intro s F; refine inOrder_nil ?_; refine execsK ?_; intro _ _ _; (with_reducible refine wpAny_Assign_Name ?_ (by with_unfolding_all (intros; rfl))); (with_reducible refine wpAny_IfExp ?_); (with_reducible refine wpAny_isTrue_Compare1 ?_ (by with_unfolding_all (intros; rfl))); refine nameL F (by first | rfl | assumption) ?_; refine nameL F (by first | rfl | assumption) ?_; (with_reducible refine lt_int ?_); (with_reducible refine wpAny_truthy_bool ?_))
              refine joinF F (fun v => ∃ t, v = .int f t) (fun hc => ?_) (fun hc => ?_) ?_
              · have hc : (i : Int) < many := by simpa using hc
                ((with_reducible refine wpAny_BinOp ?_); refine nameL F (by first | rfl | assumption) ?_; (with_reducible refine constI F ?_); clear F; intro t s F; (with_reducible refine addI F ?_); clear F; intro t s F)
                rw [if_pos hc] at hfile
                exact ⟨⟨t, by rw [hfile]⟩, F⟩
              · have hc : ¬ (i : Int) < many := by simpa using hc
                ((with_reducible refine constI F ?_); clear F; intro t s F)
                rw [if_neg hc] at hfile
                exact ⟨⟨t, by rw [hfile]⟩, F⟩
              clear F
              rintro _ s ⟨tf, rfl⟩ F
              (refine storeC F ?_; clear F; intro s F; (with_reducible refine next_ (by assumption) ?_); refine execsK ?_; intro _ _ _)
              refine compA (cl := [("plain_rows", L + 1)]) (by rfl) (by rfl) (by rfl) (by decide) ?_
              ((with_reducible refine Call_ ?_ (by with_unfolding_all (intros; rfl))); refine nameB C F (by rfl) (by first | with_reducible exact PySem.boot_len | with_reducible exact PyProof.Rows.boot_range | with_reducible exact PyProof.Rows.boot_sorted | with_reducible exact PyProof.Rows.boot_list | with_reducible exact PyProof.Rows.boot_enumerate) (by decide) ?_; (with_reducible refine PyProof.Rows.callWith_builtin1 ?_ (by with_unfolding_all (intros; rfl)) (by with_unfolding_all (intros; rfl))); (with_reducible refine wpAny_items_cons ?_ (by with_unfolding_all (intros; rfl))); (with_reducible refine MethodCall_ ?_ (by with_unfolding_all (intros; rfl))); refine nameL F (by first | rfl | assumption) ?_)
              refine methValues (prog := PR) (w := w) F D ?_
              ((with_reducible refine callWith_method0 ?_))
              refine callValues (prog := PR) (w := w) F D ?_
              clear F; intro vd s G11 le11 hvd F
              replace D := D.mono le11
              ((with_reducible refine wpAny_items_nil ?_))
              refine sortedVals (xs := kvs.map (fun kv => numOf kv.2)) hA.handled F D hvd (by simp) (fun i kv hkv => ?_) (by lia) ?_
              · obtain ⟨k, tk, -, ek, -⟩ := V.val kv (List.mem_of_getElem? hkv)
                exact ⟨k, tk, by rw [List.getElem?_map, hkv]; simp [ek, numOf], ek⟩
              clear F; intro al s G12 aus ats le12 haus haints hapm _ F
              obtain ⟨pl', pvs', epl, hpvl, hpvs⟩ := hrows.mono (le11.trans le12)
              cases epl
              have hpvn := hpvs.len
              have hatl := haints.length
              have hatn : ats.length = kvs.length := by have := hapm.length_eq; rwa [List.length_map] at this
              have hatm : ∀ y, y ∈ ats ↔ ∃ (i : Nat) (a : Int), InRow rows i a ∧ y = i := fun y => (hapm.mem_iff).trans (vals_mem hO V)
              let JM : Nat → Nm → View → List Value → Prop := fun i m G' ys => All2 (fun z (y : Int) => ∃ r, rows[y.toNat]? = some r ∧ PRow G' z r) ys (ats.take i)
              refine compLa hA.handled F haus (by lia) (fun _ _ _ _ _ _ _ _ q => goName q) (by rfl) (by decide) (fun n c h => by rw [List.mem_singleton.mp h]; exact mem_of_lookup (by rfl)) (by simp) JM .nil ?_ ?_
              · clear F hw
                intro i v C' b' m₄ G13 mu₄ ys s E₁ hv le J₁ hT F
                obtain ⟨y, ty, rfl, hy⟩ := haints.at i v hv
                obtain ⟨k, a, hin, rfl⟩ := (hatm y).mp (List.mem_of_getElem? hy)
                obtain ⟨va, hva, aa, ta1, ta2, ta3, rfl, hta⟩ := hpvs.get' (List.getElem?_eq_getElem hin.lt)
                have htk : ats.take (i + 1) = ats.take i ++ [(k : Int)] := by rw [List.take_add_one, hy]; rfl
                replace hpvl := hpvl.mono le
                ((with_reducible refine asgName ?_); refine storeL F ?_; clear F; intro s F)
                refine tests_nil ?_
                ((with_reducible refine ifT ?_); (with_reducible refine Subscript_ ?_); refine nameC F (by first | rfl | assumption) ?_; refine nameL F (by first | rfl | assumption) ?_; refine itemLn F (by assumption) (by assumption) (by omega) ?_)
                refine ⟨_, _, Le.refl _, F, ?_⟩
                show All2 _ _ _
                rw [htk]
                exact All2.app J₁ (.one ⟨_, by simp, _, _, _, _, rfl, hta.mono le⟩)
              · clear F
                intro ml m' G13 G14 zs s le13 JM' le14 hml F
                have hzs : All2 (fun z (y : Int) => ∃ r, rows[y.toNat]? = some r ∧ PRow G14 z r) zs ats := by
                  have h : All2 _ _ _ := JM'
                  rw [hatl, List.take_length] at h
                  exact h.mono fun z y ⟨r, h1, h2⟩ => ⟨r, h1, PRow.mono le14 _ _ h2⟩
                have up14 : Le G10 G14 := ((le11.trans le12).trans le13).trans le14
                replace D := D.mono ((le12.trans le13).trans le14)
                replace H := H.mono up14; replace hrows := hrows.mono up14; replace hw := hw.mono up14
                clear JM JM' hpvl hpvs haus haints hvd
                ((with_reducible refine next_ (by assumption) ?_); refine execsK ?_; intro _ _ _; (with_reducible refine wpAny_Assign_Name ?_ (by with_unfolding_all (intros; rfl))); (with_reducible refine Call_ ?_ (by with_unfolding_all (intros; rfl))); refine nameB C F (by rfl) (by first | with_reducible exact PySem.boot_len | with_reducible exact PyProof.Rows.boot_range | with_reducible exact PyProof.Rows.boot_sorted | with_reducible exact PyProof.Rows.boot_list | with_reducible exact PyProof.Rows.boot_enumerate) (by decide) ?_; (with_reducible refine PyProof.Rows.callWith_builtin1 ?_ (by with_unfolding_all (intros; rfl)) (by with_unfolding_all (intros; rfl))); (with_reducible refine wpAny_items_cons ?_ (by with_unfolding_all (intros; rfl))))
                have hzl := hzs.len
                refine compDe (b := ⟨T, S, G, ([] : Mu).map (·.1)⟩) (cl := [("file", L + 2)]) hA.handled (sys_lt C) (by rfl) (by rfl) (by decide) (by decide) (fun n c h => by rw [List.mem_singleton.mp h]; exact mem_of_lookup (by rfl)) (by simp) ?_
                (refine nameL F (by first | rfl | assumption) ?_)
                let JD : Nat → Nm → View → List (Int × Value) → Prop := fun i m G' kvs' => ∀ n, n ∈ kvs'.map (·.1) ↔ ∃ y ∈ ats.take i, ∃ r, rows[y.toNat]? = some r ∧ r.stmt = true ∧ r.file = f ∧ r.line = n
                refine ⟨ml, zs, _, _, _, _, rfl, F, hml, by lia, JD, fun n => ⟨fun h => by simp at h, fun ⟨y, h, _⟩ => by simp at h⟩, ?_, ?_⟩
                · clear F hw
                  intro i v C' b' m₄ G15 mu₄ kvs' s E₁ hv le J₁ hT F
                  obtain ⟨y, hy, r, hr, aa, ta1, ta2, ta3, rfl, hta⟩ := hzs.get hv
                  replace hta := hta.mono le
                  have htk : ats.take (i + 1) = ats.take i ++ [y] := by rw [List.take_add_one, hy]; rfl
                  have skip : ¬ (r.stmt = true ∧ r.file = f) → JD (i + 1) m₄ G15 kvs' := fun hno n => by
                    rw [J₁ n, htk]
                    constructor
                    · rintro ⟨y', h, r'⟩; exact ⟨y', List.mem_append_left _ h, r'⟩
                    · rintro ⟨y', h, r', h1, h2, h3, h4⟩
                      rcases List.mem_append.mp h with h | h
                      · exact ⟨y', h, r', h1, h2, h3, h4⟩
                      · rw [List.mem_singleton.mp h, hr] at h1; cases h1
                        exact absurd ⟨h2, h3⟩ hno
                  ((with_reducible refine asgName ?_); refine storeL F ?_; clear F; intro s F)
                  refine wpAny_tests_one ?_
                  ((with_reducible refine wpAny_isTrue_BoolOp ?_); (with_reducible refine wpAny_allTrue_And_cons ?_); (with_reducible refine wpAny_isTrue_Compare1 ?_ (by with_unfolding_all (intros; rfl))); (with_reducible refine Subscript_ ?_); refine nameL F (by first | rfl | assumption) ?_; (with_reducible refine constI F ?_); clear F; intro t s F; refine itemT (F.f.tup (by assumption)) (by decide) (by decide) (by rfl) ?_; refine nameC F (by first | rfl | assumption) ?_; (with_reducible refine eq_int ?_); (with_reducible refine wpAny_truthy_bool ?_))
                  refine splitB (fun hc => ?_) (fun hc => ?_)
                  · have hc : r.file = f := by simpa using hc
                    ((with_reducible refine wpAny_allTrue_And_cons ?_); (with_reducible refine wpAny_isTrue_value ?_ (by with_unfolding_all (intros; rfl))); (with_reducible refine Subscript_ ?_); refine nameL F (by first | rfl | assumption) ?_; (with_reducible refine constI F ?_); clear F; intro t s F; refine itemT (F.f.tup (by assumption)) (by decide) (by decide) (by rfl) ?_; (with_reducible refine wpAny_truthy_bool ?_))
                    cases hst : r.stmt with
                    | false =>
                      ((with_reducible refine ifF ?_); (with_reducible refine ifF ?_))
                      exact ⟨_, _, Le.refl _, F, skip (by simp [hst])⟩
                    | true =>
                      ((with_reducible refine ifT ?_); (with_reducible refine wpAny_allTrue_And_nil ?_); (with_reducible refine ifT ?_); (with_reducible refine Subscript_ ?_); refine nameL F (by first | rfl | assumption) ?_; (with_reducible refine constI F ?_); clear F; intro t s F; refine itemT (F.f.tup (by assumption)) (by decide) (by decide) (by rfl) ?_; (with_reducible refine wpAny_Constant_bool ?_))
                      refine ⟨_, _, _, _, rfl, Le.refl _, F, fun n => ?_⟩
                      rw [mem_stored, J₁ n, htk]
                      constructor
                      · rintro (⟨y', h, r'⟩ | rfl)
                        · exact ⟨y', List.mem_append_left _ h, r'⟩
                        · exact ⟨y, List.mem_append_right _ (.head _), r, hr, hst, hc, rfl⟩
                      · rintro ⟨y', h, r', h1, h2, h3, h4⟩
                        rcases List.mem_append.mp h with h | h
                        · exact .inl ⟨y', h, r', h1, h2, h3, h4⟩
                        · rw [List.mem_singleton.mp h, hr] at h1; cases h1
                          exact .inr h4.symm
                  · have hc : ¬ r.file = f := by simpa using hc
                    ((with_reducible refine ifF ?_))
                    exact ⟨_, _, Le.refl _, F, skip (fun h => hc h.2)⟩
                · clear F
                  intro ld m' G15 G16 kvs' s le15 JD' le16 hld hkl F
                  ((with_reducible refine wpAny_items_nil ?_))
                  refine sortedDict hA.handled F hld (by lia) ?_
                  clear F; intro ll s G17 lus lns le17 hll hlints hlpm hlso F
                  have hasc : AscSet lns (Told rows sps f) := by
                    have hnd : (kvs'.map (·.1)).Nodup := by
                      obtain ⟨_, o, _, h⟩ := hld
                      obtain ⟨_, _, _, _, _, _, h⟩ := h
                      exact h
                    refine ⟨asc_of hlpm hlso hnd, fun n => ?_⟩
                    have h := JD' n
                    rw [hzl, List.take_length] at h
                    rw [hlpm.mem_iff, h, told_iff SF]
                    constructor
                    · rintro ⟨y, hy, r, h1, h2⟩
                      obtain ⟨k, a, hin, rfl⟩ := (hatm y).mp hy
                      exact ⟨k, a, r, hin, by simpa using h1, h2⟩
                    · rintro ⟨k, a, r, hin, h1, h2⟩
                      exact ⟨k, (hatm _).mpr ⟨k, a, hin, rfl⟩, r, by simpa using h1, h2⟩
                  have hll2 : lns.length ≤ 108 := by have := hlpm.length_eq; rw [List.length_map] at this; lia
                  have up17 : Le G14 G17 := (le15.trans le16).trans le17
                  replace H := H.mono up17; replace hrows := hrows.mono up17; replace hw := hw.mono up17; replace D := D.mono up17
                  replace up17 := up14.trans up17
                  clear JD JD' hld hzs hml hlpm hlso hkl hzl le11 le12 le13 le14 le15 le16 le17 up14 hatm hatn hatl hapm hpvn
                  (refine storeL F ?_; clear F; intro s F; (with_reducible refine next_ (by assumption) ?_); refine execsK ?_; intro _ _ _)
                  obtain ⟨-, -, tes, flx, rlx, slx, nvx, svx, I, tef, ter, tes', el, -⟩ := id H
                  (refine wpAny_If ?_; (with_reducible refine wpAny_isTrue_BoolOp ?_); (with_reducible refine wpAny_allTrue_Or_cons ?_); (with_reducible refine wpAny_isTrue_Compare1 ?_ (by with_unfolding_all (intros; rfl))); (with_reducible refine MethodCall_ ?_ (by with_unfolding_all (intros; rfl))); refine nameL F (by first | rfl | assumption) ?_; refine methG C F (by assumption) (clsOk106 _) (by first | with_reducible exact me_like _ | with_reducible exact me_place _ | with_reducible exact me_number _ | with_reducible exact me_name _ | with_reducible exact me_row _ | with_reducible exact me_span _ | with_reducible exact me_begin _ | with_reducible exact me_lines _ | with_reducible exact me_from _ | with_reducible exact me_places _ | with_reducible exact me_second _) (by first | exact noName (by assumption) _ (by rfl) | rfl) ?_; refine callWith_K C.X (by rfl) ?_; (with_reducible refine wpAny_items_cons ?_ (by with_unfolding_all (intros; rfl))); refine nameL F (by first | rfl | assumption) ?_; (with_reducible refine wpAny_items_nil ?_); refine inAnd C F ?_)
                  refine Fs.calls0 (file_number_ok C (hA.mono (by decide)) H) F ?_
                  clear F; rintro s G18 _ le18 F ⟨t2, rfl⟩
                  replace I := I.mono le18; replace H := H.mono le18; replace hll := hll.mono le18
                  rw [hfn]
                  (refine nameC F (by first | rfl | assumption) ?_; (with_reducible refine ne_int ?_); (with_reducible refine wpAny_truthy_bool ?_))
                  refine splitB (fun hc => absurd hc (by simp)) (fun _ => ?_)
                  ((with_reducible refine wpAny_allTrue_Or_cons ?_); (with_reducible refine wpAny_isTrue_Compare1 ?_ (by with_unfolding_all (intros; rfl))); (with_reducible refine MethodCall_ ?_ (by with_unfolding_all (intros; rfl))); refine nameL F (by first | rfl | assumption) ?_; refine methG C F (by assumption) (clsOk106 _) (by first | with_reducible exact me_like _ | with_reducible exact me_place _ | with_reducible exact me_number _ | with_reducible exact me_name _ | with_reducible exact me_row _ | with_reducible exact me_span _ | with_reducible exact me_begin _ | with_reducible exact me_lines _ | with_reducible exact me_from _ | with_reducible exact me_places _ | with_reducible exact me_second _) (by first | exact noName (by assumption) _ (by rfl) | rfl) ?_; refine callWith_K C.X (by rfl) ?_; (with_reducible refine wpAny_items_cons ?_ (by with_unfolding_all (intros; rfl))); refine nameL F (by first | rfl | assumption) ?_; (with_reducible refine wpAny_items_nil ?_); refine inAnd C F ?_)
                  refine Fs.calls0 (lines_ok C (hA.mono (by decide)) H) F ?_
                  clear F; rintro s G19 _ le19 F ⟨xs, ⟨xa, xus, rfl, hxus, hxints⟩, hxasc, -⟩
                  replace I := I.mono le19; replace H := H.mono le19; replace hll := hll.mono le19
                  rw [hfn] at hxasc
                  cases lines_eq hxasc hasc
                  (refine nameL F (by first | rfl | assumption) ?_)
                  refine ne_intsK (F.f.lstG hxus) hxints (F.f.lstG hll) hlints (by have := hA.units; lia) ?_
                  ((with_reducible refine wpAny_truthy_bool ?_))
                  refine splitB (fun hc => absurd hc (by simp)) (fun _ => ?_)
                  replace hrows := hrows.mono (le18.trans le19); replace hw := hw.mono (le18.trans le19); replace D := D.mono (le18.trans le19); replace up17 := up17.trans (le18.trans le19)
                  clear hxus hxints hxasc le18 le19
                  ((with_reducible refine wpAny_allTrue_Or_nil ?_); (with_reducible refine ifF ?_); (with_reducible refine wpAny_execs_nil ?_); (with_reducible refine next_ (by assumption) ?_); refine execsK ?_; intro _ _ _; (with_reducible refine wpAny_Assign_Name ?_ (by with_unfolding_all (intros; rfl))); (with_reducible refine wpAny_BinOp ?_); (with_reducible refine constI F ?_); clear F; intro t s F; (with_reducible refine Call_ ?_ (by with_unfolding_all (intros; rfl))); refine nameK C F (by rfl) ?_; refine callWith_K C.X (by rfl) ?_; (with_reducible refine wpAny_items_cons ?_ (by with_unfolding_all (intros; rfl))); refine nameL F (by first | rfl | assumption) ?_; (with_reducible refine wpAny_items_cons ?_ (by with_unfolding_all (intros; rfl))); (with_reducible refine constI F ?_); clear F; intro t s F; (with_reducible refine wpAny_items_nil ?_); refine inAnd C F ?_)
                  refine drawR C (hA.mono (by decide)) hw (by decide) F ?_
                  clear F hw; intro s G20 o r5 t5 le20 hw hr50 hr51 F
                  replace I := I.mono le20; replace H := H.mono le20; replace hll := hll.mono le20; replace hrows := hrows.mono le20; replace D := D.mono le20; replace up17 := up17.trans le20
                  clear le20
                  ((with_reducible refine addI F ?_); clear F; intro t s F; refine storeC F ?_; clear F; intro s F; (with_reducible refine next_ (by assumption) ?_); refine execsK ?_; intro _ _ _; (with_reducible refine wpAny_Assign_Name ?_ (by with_unfolding_all (intros; rfl))); (with_reducible refine wpAny_BinOp ?_))
                  generalize (1 : Int) + r5 = line at F
                  have hlul := hlints.length
                  refine compE (cl := [("line", L + 3)]) (by rfl) (by rfl) (by decide) ?_
                  (refine nameL F (by first | rfl | assumption) ?_)
                  let JL : Nat → Nm → View → List Value → Prop := fun i m G' ys => IntsAre ys ((lns.take i).filter fun n => decide (line ≤ n))
                  refine compLe hA.handled F hll (by lia) (fun _ _ _ _ _ _ _ _ q => goName q) (by rfl) (by decide) (fun n c h => by rw [List.mem_singleton.mp h]; exact mem_of_lookup (by rfl)) (by simp) JL .nil ?_ ?_
                  · clear F hw
                    intro i v C' b' m₄ G21 mu₄ ys s E₁ hv le J₁ hT F
                    obtain ⟨n, t6, rfl, hn⟩ := hlints.at i v hv
                    have htk : lns.take (i + 1) = lns.take i ++ [n] := by rw [List.take_add_one, hn]; rfl
                    ((with_reducible refine asgName ?_); refine storeL F ?_; clear F; intro s F)
                    refine wpAny_tests_one ?_
                    ((with_reducible refine wpAny_isTrue_Compare1 ?_ (by with_unfolding_all (intros; rfl))); refine nameL F (by first | rfl | assumption) ?_; refine nameC F (by first | rfl | assumption) ?_; (with_reducible refine PyProof.Rows.ge_int ?_); (with_reducible refine wpAny_truthy_bool ?_))
                    refine splitB (fun hc => ?_) (fun hc => ?_)
                    · (refine nameL F (by first | rfl | assumption) ?_)
                      refine ⟨_, _, Le.refl _, F, ?_⟩
                      have hc : line ≤ n := by simpa using hc
                      show IntsAre _ _
                      rw [htk, List.filter_append]
                      exact intsApp J₁ (by simp [hc]; exact .cons _ _ .nil)
                    · refine ⟨_, _, Le.refl _, F, ?_⟩
                      have hc : ¬ line ≤ n := by simpa using hc
                      show IntsAre _ _
                      rw [htk, List.filter_append]
                      simpa [hc] using J₁
                  · clear F
                    intro lat m' G21 G22 ys s le21 J' le22 hlat F
                    have J' : IntsAre ys _ := J'
                    rw [hlul, List.take_length] at J'
                    have hyl : ys.length ≤ lns.length := by rw [J'.length]; exact List.length_filter_le _ _
                    ((with_reducible refine lstR ?_); (with_reducible refine wpAny_items_cons ?_ (by with_unfolding_all (intros; rfl))); (with_reducible refine wpAny_UnaryOp ?_); (with_reducible refine constI F ?_); clear F; intro t s F; (with_reducible refine negI F ?_); clear F; intro t s F; (with_reducible refine wpAny_items_nil ?_))
                    refine lst_end F ?_
                    clear F; intro m1l s G23 le23 hm1l F
                    refine addL F (F.f.lstG (hlat.mono le23)) (F.f.lstG ⟨_, hm1l, isL_lst _⟩) (by simp; lia) ?_
                    clear F; intro later s G24 le24 hlater F
                    have up24 : Le G20 G24 := ((le21.trans le22).trans le23).trans le24
                    replace I := I.mono up24; replace H := H.mono up24; replace hrows := hrows.mono up24; replace hw := hw.mono up24; replace D := D.mono up24; replace up17 := up17.trans up24
                    (refine storeL F ?_; clear F; intro s F; (with_reducible refine next_ (by assumption) ?_); refine execsK ?_; intro _ _ _; (with_reducible refine wpAny_Assign_Name ?_ (by with_unfolding_all (intros; rfl))); (with_reducible refine Call_ ?_ (by with_unfolding_all (intros; rfl))); refine nameK C F (by rfl) ?_; refine callWith_K C.X (by rfl) ?_; (with_reducible refine wpAny_items_cons ?_ (by with_unfolding_all (intros; rfl))); refine nameC F (by first | rfl | assumption) ?_; (with_reducible refine wpAny_items_cons ?_ (by with_unfolding_all (intros; rfl))); refine nameL F (by first | rfl | assumption) ?_; (with_reducible refine wpAny_items_cons ?_ (by with_unfolding_all (intros; rfl))); refine nameC F (by first | rfl | assumption) ?_; (with_reducible refine wpAny_items_cons ?_ (by with_unfolding_all (intros; rfl))); (with_reducible refine Subscript_ ?_); refine nameL F (by first | rfl | assumption) ?_; (with_reducible refine constI F ?_); clear F; intro t s F)
                    obtain ⟨zl, hlater, n0, tt, hz0, hfrom⟩ : ∃ zl, G24 later = some (lstO zl) ∧ ∃ n0 tt, zl[0]? = some (.int n0 tt) ∧ LineFrom (Told rows sps f) line n0 := ⟨_, hlater, by
                      clear hlater hm1l F hlat
                      generalize hfl : lns.filter (fun n => decide (line ≤ n)) = fl' at J'
                      cases J' with
                      | nil => exact ⟨-1, _, rfl, lineFrom_nil hasc hfl⟩
                      | cons n t7 r => exact ⟨n, t7, rfl, lineFrom_cons hasc hfl⟩⟩
                    clear hm1l hlat hyl le21 le22 le23 le24 up24 hll
                    refine itemL (F.f.lstG ⟨_, hlater, isL_lst _⟩) (by decide) (by decide) hz0 ?_
                    ((with_reducible refine wpAny_items_nil ?_); refine inAnd C F ?_)
                    refine Fs.calls0 (places_ok C (hA.mono (by decide)) hrows hO D V hkz) F ?_
                    clear F; rintro s G25 _ le25 F ⟨g, xs, tw, ⟨ga, gus, rfl, hgus, hgints⟩, hxs, hP⟩
                    replace I := I.mono le25; replace H := H.mono le25; replace hlater := le25 _ _ hlater
                    (refine storeL F ?_; clear F; intro s F; (with_reducible refine next_ (by assumption) ?_); refine execsK ?_; intro _ _ _; refine wpAny_If ?_; (with_reducible refine wpAny_isTrue_BoolOp ?_); (with_reducible refine wpAny_allTrue_Or_cons ?_); (with_reducible refine wpAny_isTrue_Compare1 ?_ (by with_unfolding_all (intros; rfl))); (with_reducible refine MethodCall_ ?_ (by with_unfolding_all (intros; rfl))); refine nameL F (by first | rfl | assumption) ?_; refine methG C F (by assumption) (clsOk106 _) (by first | with_reducible exact me_like _ | with_reducible exact me_place _ | with_reducible exact me_number _ | with_reducible exact me_name _ | with_reducible exact me_row _ | with_reducible exact me_span _ | with_reducible exact me_begin _ | with_reducible exact me_lines _ | with_reducible exact me_from _ | with_reducible exact me_places _ | with_reducible exact me_second _) (by first | exact noName (by assumption) _ (by rfl) | rfl) ?_; refine callWith_K C.X (by rfl) ?_; (with_reducible refine wpAny_items_cons ?_ (by with_unfolding_all (intros; rfl))); refine nameL F (by first | rfl | assumption) ?_; (with_reducible refine wpAny_items_cons ?_ (by with_unfolding_all (intros; rfl))); refine nameC F (by first | rfl | assumption) ?_; (with_reducible refine wpAny_items_nil ?_); refine inAnd C F ?_)
                    refine Fs.calls0 (line_from_ok C (hA.mono (by decide)) H) F ?_
                    clear F; rintro s G26 _ le26 F ⟨n1, t8, rfl, hfrom1⟩
                    replace I := I.mono le26; replace H := H.mono le26; replace hlater := le26 _ _ hlater
                    rw [hfn] at hfrom1
                    cases lineFrom_one hfrom1 hfrom
                    ((with_reducible refine Subscript_ ?_); refine nameL F (by first | rfl | assumption) ?_; (with_reducible refine constI F ?_); clear F; intro t s F)
                    refine itemL (F.f.lstG ⟨_, hlater, isL_lst _⟩) (by decide) (by decide) hz0 ?_
                    ((with_reducible refine ne_int ?_); (with_reducible refine wpAny_truthy_bool ?_))
                    refine splitB (fun hc => absurd hc (by simp)) (fun _ => ?_)
                    ((with_reducible refine wpAny_allTrue_Or_cons ?_); (with_reducible refine wpAny_isTrue_Compare1 ?_ (by with_unfolding_all (intros; rfl))); (with_reducible refine MethodCall_ ?_ (by with_unfolding_all (intros; rfl))); refine nameL F (by first | rfl | assumption) ?_; refine methG C F (by assumption) (clsOk106 _) (by first | with_reducible exact me_like _ | with_reducible exact me_place _ | with_reducible exact me_number _ | with_reducible exact me_name _ | with_reducible exact me_row _ | with_reducible exact me_span _ | with_reducible exact me_begin _ | with_reducible exact me_lines _ | with_reducible exact me_from _ | with_reducible exact me_places _ | with_reducible exact me_second _) (by first | exact noName (by assumption) _ (by rfl) | rfl) ?_; refine callWith_K C.X (by rfl) ?_; (with_reducible refine wpAny_items_cons ?_ (by with_unfolding_all (intros; rfl))); refine nameL F (by first | rfl | assumption) ?_; (with_reducible refine wpAny_items_cons ?_ (by with_unfolding_all (intros; rfl))); refine nameC F (by first | rfl | assumption) ?_; (with_reducible refine wpAny_items_nil ?_); refine inAnd C F ?_)
                    refine Fs.calls0 (places_of_ok C (hA.mono (by decide)) H) F ?_
                    clear F; rintro s G27 _ le27 F ⟨n2, hfrom2, pa, pus, rfl, hpus, hpints⟩
                    rw [hfn] at hfrom2 hpints
                    cases lineFrom_one hfrom2 hfrom
                    (refine nameL F (by first | rfl | assumption) ?_)
                    refine ne_intsK (F.f.lstG hpus) hpints (F.f.lstG ((hgus.mono le26).mono le27)) hgints (by have := hA.units; lia) ?_
                    ((with_reducible refine wpAny_truthy_bool ?_))
                    rw [← places_eq hO SF hfrom hxs hP]
                    refine splitB (fun hc => absurd hc (by simp)) (fun _ => ?_)
                    ((with_reducible refine wpAny_allTrue_Or_nil ?_); (with_reducible refine ifF ?_); (with_reducible refine wpAny_execs_nil ?_); (with_reducible refine next_ (by assumption) ?_); (with_reducible refine wpAny_execs_nil ?_); (with_reducible refine lp_n (by assumption) ?_))
                    exact ⟨_, _, _, [(well, o)], ((up17.trans le25).trans le26).trans le27, F, o, rfl, hw.mono ((le25.trans le26).trans le27), mw, mm, mt, mc, mp⟩
            · clear F hw mw mm mr mt mc mp
              rintro m₃ cm₃ G10 mu₃ s le10 ⟨o, rfl, hw, mw, mm, mt, mc, mp⟩ F
              replace H := H.mono le10; replace hrows := hrows.mono le10; replace D := D.mono le10; replace up9 := up9.trans le10
              clear hN J
              obtain ⟨-, -, tes, flx, rlx, slx, nvx, svx, I, tef, ter, tes', el, -⟩ := id H
              ((with_reducible refine fo_ (by assumption) ?_); (with_reducible refine next_ (by assumption) ?_); refine execsK ?_; intro _ _ _; (with_reducible refine wpAny_Assign_Name ?_ (by with_unfolding_all (intros; rfl))); (with_reducible refine wpAny_BinOp ?_); (with_reducible refine constI F ?_); clear F; intro t s F; (with_reducible refine Call_ ?_ (by with_unfolding_all (intros; rfl))); refine nameK C F (by rfl) ?_; refine callWith_K C.X (by rfl) ?_; (with_reducible refine wpAny_items_cons ?_ (by with_unfolding_all (intros; rfl))); refine nameL F (by first | rfl | assumption) ?_; (with_reducible refine wpAny_items_cons ?_ (by with_unfolding_all (intros; rfl))); (with_reducible refine constI F ?_); clear F; intro t s F; (with_reducible refine wpAny_items_nil ?_); refine inAnd C F ?_)
              refine drawR C (hA.mono (by decide)) hw (by decide) F ?_
              clear F hw; intro s G11 o r1 t1 le11 hw hr10 hr11 F
              ((with_reducible refine addI F ?_); clear F; intro t s F; refine storeC F ?_; clear F; intro s F; (with_reducible refine next_ (by assumption) ?_); refine execsK ?_; intro _ _ _; (with_reducible refine wpAny_Assign_Name ?_ (by with_unfolding_all (intros; rfl))); (with_reducible refine wpAny_BinOp ?_); refine nameC F (by first | rfl | assumption) ?_; (with_reducible refine Call_ ?_ (by with_unfolding_all (intros; rfl))); refine nameK C F (by rfl) ?_; refine callWith_K C.X (by rfl) ?_; (with_reducible refine wpAny_items_cons ?_ (by with_unfolding_all (intros; rfl))); refine nameL F (by first | rfl | assumption) ?_; (with_reducible refine wpAny_items_cons ?_ (by with_unfolding_all (intros; rfl))); (with_reducible refine constI F ?_); clear F; intro t s F; (with_reducible refine wpAny_items_nil ?_); refine inAnd C F ?_)
              generalize (998 : Int) + r1 = low at F
              refine drawR C (hA.mono (by decide)) hw (by decide) F ?_
              clear F hw; intro s G12 o r2 t2 le12 hw hr20 hr21 F
              ((with_reducible refine addI F ?_); clear F; intro t s F; refine storeC F ?_; clear F; intro s F; (with_reducible refine next_ (by assumption) ?_); refine execsK ?_; intro _ _ _; (with_reducible refine wpAny_Return_some ?_); (with_reducible refine wpAny_Compare1 ?_ (by with_unfolding_all (intros; rfl))); (with_reducible refine MethodCall_ ?_ (by with_unfolding_all (intros; rfl))); refine nameL F (by first | rfl | assumption) ?_)
              generalize low + r2 = high at F
              replace I := I.mono (le11.trans le12); replace H := H.mono (le11.trans le12); replace D := D.mono (le11.trans le12)
              (refine methG C F (by assumption) (clsOk106 _) (by first | with_reducible exact me_like _ | with_reducible exact me_place _ | with_reducible exact me_number _ | with_reducible exact me_name _ | with_reducible exact me_row _ | with_reducible exact me_span _ | with_reducible exact me_begin _ | with_reducible exact me_lines _ | with_reducible exact me_from _ | with_reducible exact me_places _ | with_reducible exact me_second _) (by first | exact noName (by assumption) _ (by rfl) | rfl) ?_; refine callWith_K C.X (by rfl) ?_; (with_reducible refine wpAny_items_cons ?_ (by with_unfolding_all (intros; rfl))); refine nameC F (by first | rfl | assumption) ?_; (with_reducible refine wpAny_items_cons ?_ (by with_unfolding_all (intros; rfl))); refine nameC F (by first | rfl | assumption) ?_; (with_reducible refine wpAny_items_nil ?_); refine inAnd C F ?_)
              refine Fs.calls0 (second_ok C (hA.mono (by decide)) H) F ?_
              clear F; rintro s G13 _ le13 F ⟨t3, rfl⟩
              ((with_reducible refine Subscript_ ?_); (with_reducible refine wpAny_BinOp ?_))
              refine compE (cl := [("low", L + 4), ("high", L + 5)]) (by rfl) (by rfl) (by decide) ?_
              ((with_reducible refine Call_ ?_ (by with_unfolding_all (intros; rfl))); refine nameK C F (by rfl) ?_; refine callWith_K C.X (by rfl) ?_; (with_reducible refine wpAny_items_cons ?_ (by with_unfolding_all (intros; rfl))); refine nameL F (by first | rfl | assumption) ?_; (with_reducible refine wpAny_items_nil ?_); refine inAnd C F ?_)
              refine Fs.calls0 (starts_ok C (hA.mono (by decide)) hO (D.mono le13) V hkz) F ?_
              clear F; rintro s G14 _ le14 F ⟨xs, ⟨xa, xus, rfl, hxus, hxints⟩, hxasc, hxl⟩
              have hxul := hxints.length
              let JL : Nat → Nm → View → List Value → Prop := fun i m G' ys => IntsAre ys ((xs.take i).filter fun a => decide (low < a) && decide (a < high))
              refine compLe hA.handled F hxus (by lia) (fun _ _ _ _ _ _ _ _ q => goName q) (by rfl) (by decide) (fun n c h => by
                rcases List.mem_cons.mp h with h | h
                · rw [h]; exact mem_of_lookup (by rfl)
                · rw [List.mem_singleton.mp h]; exact mem_of_lookup (by rfl)) (by simp; decide) JL .nil ?_ ?_
              · clear F hw
                intro i v C' b' m₄ G15 mu₄ ys s E₁ hv le J₁ hT F
                obtain ⟨n, t6, rfl, hn⟩ := hxints.at i v hv
                have htk : xs.take (i + 1) = xs.take i ++ [n] := by rw [List.take_add_one, hn]; rfl
                have skip : (decide (low < n) && decide (n < high)) = false → JL (i + 1) m₄ G15 ys := fun hc => by
                  show IntsAre _ _
                  rw [htk, List.filter_append, List.filter_cons, hc]
                  simpa using J₁
                ((with_reducible refine asgName ?_); refine storeL F ?_; clear F; intro s F)
                refine wpAny_tests_one ?_
                ((with_reducible refine isTrue_chain ?_ (by with_unfolding_all (intros; rfl))); refine nameC F (by first | rfl | assumption) ?_; refine test_link ?_; refine nameL F (by first | rfl | assumption) ?_; (with_reducible refine lt_int ?_); (with_reducible refine wpAny_truthy_bool ?_))
                refine splitB (fun hc => ?_) (fun hc => ?_)
                · (refine test_last ?_; refine nameC F (by first | rfl | assumption) ?_; (with_reducible refine lt_int ?_); (with_reducible refine wpAny_truthy_bool ?_))
                  refine splitB (fun hd => ?_) (fun hd => ?_)
                  · (refine nameL F (by first | rfl | assumption) ?_)
                    refine ⟨_, _, Le.refl _, F, ?_⟩
                    show IntsAre _ _
                    rw [htk, List.filter_append, List.filter_cons, hc, hd]
                    exact intsApp J₁ (.cons _ _ .nil)
                  · skip
                    exact ⟨_, _, Le.refl _, F, skip (by rw [hd, Bool.and_false])⟩
                · ((with_reducible refine ifF ?_))
                  exact ⟨_, _, Le.refl _, F, skip (by rw [hc, Bool.false_and])⟩
              · clear F
                intro lat m' G15 G16 ys s le15 J' le16 hlat F
                have J2 : IntsAre ys _ := J'
                rw [hxul, List.take_length] at J2
                have hyl : ys.length ≤ xs.length := by rw [J2.length]; exact List.length_filter_le _ _
                ((with_reducible refine lstR ?_); (with_reducible refine wpAny_items_cons ?_ (by with_unfolding_all (intros; rfl))); refine nameC F (by first | rfl | assumption) ?_; (with_reducible refine wpAny_items_nil ?_))
                refine lst_end F ?_
                clear F; intro ol s G17 le17 hol F
                refine addL F (F.f.lstG (hlat.mono le17)) (F.f.lstG ⟨_, hol, isL_lst _⟩) (by simp; lia) ?_
                clear F; intro both s G18 le18 hboth F
                obtain ⟨zl, hboth, tt, hz0⟩ : ∃ zl, G18 both = some (lstO zl) ∧ ∃ tt, zl[0]? = some (.int (secondIn sps low high) tt) := ⟨_, hboth, by
                  clear hboth hol F hlat
                  rw [second_eq, ← starts_eq hO SF hxasc]
                  generalize xs.filter (fun a => decide (low < a) && decide (a < high)) = fl' at J2
                  cases J2 with
                  | nil => exact ⟨_, rfl⟩
                  | cons n t7 r => exact ⟨t7, rfl⟩⟩
                ((with_reducible refine constI F ?_); clear F; intro t s F)
                refine itemL (F.f.lstG ⟨_, hboth, isL_lst _⟩) (by decide) (by decide) hz0 ?_
                refine eq_int ?_
                repeat (with_reducible first | refine rt_ (by assumption) ?_ | refine fo_ (by assumption) ?_ | refine lp_r (by assumption) ?_)
                exact ret s _ _ _ [] [(well, o)] _ F (((((((up9.trans le11).trans le12).trans le13).trans le14).trans le15).trans le16).trans (le17.trans le18)) rfl (by simp)
end
end

/-! Z1 -/
section
theorem fin : PySem.Challenge.rw_on0309_01.Holds := by
  refine hd ?_
  intro w s₀ s₁ mg mb G Y fa o pm cd doc dV kV ho hd' hcd hD hmg hg args vals as hpre hlay hrd hwl hlo
  have KX := kIn_of Y
  have e := mg_of KX G.T.g (show nsIn (KK w) mainGlobals "law" = some (some (.ref 191)) by rfl)
  have efa : fa = 191 := by
    have h : mg "law" = some (.ref fa) := hmg
    rw [e] at h
    cases h; rfl
  subst efa
  have C : Cx (KK w) s₁.heap := ⟨KX, G.T.nolimit, mg, mb, G.T.g, G.T.b, G.T.builtins⟩
  clear hcd hD hd' ho hmg e
  refine enter_call ?_
  wrow_args hpre hlay hrd hwl hlo
  rename IntsAre _ _ => hI
  rename Heap.IsList _ _ _ => hL
  rename ¬ (_ < _) => hc
  have hz := hI.length
  obtain ⟨ol, hol, hlc, nl, hld⟩ := hL
  have hok : Ok callerA 12 := ⟨rfl, by decide +kernel, by decide +kernel⟩
  refine law_ok (G := s₁.heap.get?) C hok ⟨ol, hol, hlc, nl, hld⟩ hI (by omega) s₁ _ (Nat.le_refl _) (fun a o e => e) (fun a o e => e) (fun p hp => nomatch hp) .nil fun s' G' mu' v rs gr hv => ?_
  subst hv
  obtain ⟨h', tk', rfl⟩ := rs
  refine GoodW.toG ⟨.inl ⟨.bool true, _, _, rfl, raisesW_false (by wrow_none_raised), ReadsW.bool _, ?_, ?_⟩, fun a o e => gr.keep a o e (fun h => nomatch h), rfl, hg⟩
  · wrow_post
  · intro _
    exact ⟨.nil, fun a h => nomatch h⟩
end

end Mine
end

set_option maxRecDepth 100000 in
set_option maxHeartbeats 4000000 in
theorem PySem.Challenge.cw_on0309_01_holds : PySem.Challenge.rw_on0309_01.Holds := by
  exact Mine.fin
