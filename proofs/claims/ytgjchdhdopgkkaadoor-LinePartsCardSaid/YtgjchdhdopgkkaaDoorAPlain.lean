/-
  Tables and their words as plain data, and what is wrong with one: no program in sight. No condition.
-/
import Derived.Test.YtgjchdhdopgkkaaDoorCivPlain
import Derived.Laws.StructEq
set_option linter.unusedVariables false
set_option linter.unusedSimpArgs false
set_option maxRecDepth 100000
namespace Go.Proofs.YtgjchdhdopgkkaaDoor
open Civ
def wi (n a b : Int) : Bool := decide (a ≤ n) && decide (n ≤ b)
def letB (n : Int) : Bool := decide (97 ≤ n ∧ n ≤ 122 ∨ 65 ≤ n ∧ n ≤ 90)
def digB (n : Int) : Bool := decide (48 ≤ n ∧ n ≤ 57)
def plainB (n : Int) : Bool := letB n || digB n || n == 43 || n == 45
def allB (p : Int → Bool) (s : ByteArray) : Bool := s.data.toList.all fun c => p c.toNat

theorem allB_no {p : Int → Bool} {s : ByteArray} {k : Nat} (hk : k < s.size) (h : p s[k].toNat = false) : allB p s = false := by
  unfold allB
  rw [List.all_eq_false]
  refine ⟨s[k], ?_, by simpa using h⟩
  have : s[k] = s.data.toList[k]'(by simpa using hk) := rfl
  rw [this]; exact List.getElem_mem _
theorem allB_yes {p : Int → Bool} {s : ByteArray} (h : ∀ k (hk : k < s.size), p s[k].toNat = true) : allB p s = true := by
  unfold allB
  rw [List.all_eq_true]
  intro x hx
  obtain ⟨i, hi, rfl⟩ := List.getElem_of_mem hx
  exact h i (by simpa using hi)

set_option maxHeartbeats 400000 in
abbrev Loc := Int × Int × ByteArray
abbrev Chg := Int × Loc
abbrev Tab := Loc × List Chg

/-- what is wrong with a Local -/
def locE (l : Loc) : Int :=
  if ¬ (-75600 ≤ l.1 ∧ l.1 ≤ 75600) ∨ ¬ (0 ≤ l.2.1 ∧ l.2.1 ≤ 10800) then 3
  else if l.2.2.size = 0 ∨ 24 < l.2.2.size ∨ allB plainB l.2.2 = false then 1 else 0
def timeB (a : Int) : Bool := wi a (-62135596800) 253402300799
def locEq (a b : Loc) : Bool := a.1 == b.1 && (a.2.1 == b.2.1 && a.2.2.toList == b.2.2.toList)
theorem bytes_inj {a b : ByteArray} : a.toList = b.toList ↔ a = b := by
  constructor
  · intro h
    rw [ByteArray.toList_eq, ByteArray.toList_eq] at h
    obtain ⟨⟨x⟩⟩ := a; obtain ⟨⟨y⟩⟩ := b
    simpa using h
  · intro h; rw [h]
theorem locEq_iff {a b : Loc} : locEq a b = true ↔ a = b := by
  obtain ⟨a1, a2, a3⟩ := a; obtain ⟨b1, b2, b3⟩ := b
  unfold locEq
  simp [bytes_inj]
theorem locEq_self (a : Loc) : locEq a a = true := locEq_iff.2 rfl
theorem locEq_no {a b : Loc} (h : a ≠ b) : locEq a b = false := by rw [← Bool.not_eq_true]; exact fun e => h (locEq_iff.1 e)
theorem locEq_ne {a b : Loc} (h : locEq a b = false) : a ≠ b := fun e => by rw [e, locEq_self] at h; cases h
def chgEq (a b : Chg) : Bool := a.1 == b.1 && locEq a.2 b.2
theorem chgEq_iff {a b : Chg} : chgEq a b = true ↔ a = b := by
  obtain ⟨a1, a2⟩ := a; obtain ⟨b1, b2⟩ := b
  unfold chgEq
  simp [locEq_iff]

/-- what is wrong with changes behind a time and a Local, the first thing of all -/
def chk : Int → Loc → List Chg → Int
  | _, _, [] => 0
  | a, l, c :: cs => if timeB c.1 = false then 3 else if c.1 ≤ a then 4 else if locE c.2 ≠ 0 then locE c.2 else if locEq c.2 l = true then 4 else chk c.1 c.2 cs
def checkT (t : Tab) : Int := if 1000 < t.2.length then 2 else if locE t.1 ≠ 0 then locE t.1 else chk (-62135596801) t.1 t.2

theorem locE_bd (l : Loc) : 0 ≤ locE l ∧ locE l ≤ 7 := by unfold locE; split <;> (try split) <;> omega
theorem locE_ok {l : Loc} (h : locE l = 0) : (-75600 ≤ l.1 ∧ l.1 ≤ 75600) ∧ (0 ≤ l.2.1 ∧ l.2.1 ≤ 10800) ∧ 0 < l.2.2.size ∧ l.2.2.size ≤ 24 ∧ allB plainB l.2.2 = true := by
  unfold locE at h
  split at h
  · omega
  · split at h
    · omega
    · rename_i h1 h2
      have : allB plainB l.2.2 = true := by
        cases ha : allB plainB l.2.2
        · exact absurd (.inr (.inr ha)) h2
        · rfl
      exact ⟨by omega, by omega, by omega, by omega, this⟩
theorem timeB_iff {a : Int} : timeB a = true ↔ -62135596800 ≤ a ∧ a ≤ 253402300799 := by unfold timeB wi; simp

theorem chk_nil (a : Int) (l : Loc) : chk a l [] = 0 := rfl
theorem chk_cons_ok {a : Int} {l : Loc} {c : Chg} {cs : List Chg} (h1 : timeB c.1 = true) (h2 : a < c.1) (h3 : locE c.2 = 0) (h4 : locEq c.2 l = false) : chk a l (c :: cs) = chk c.1 c.2 cs := by
  rw [chk, if_neg (by rw [h1]; simp), if_neg (by omega), if_neg (by simp [h3]), if_neg (by rw [h4]; simp)]
theorem chk_cons_3 {a : Int} {l : Loc} {c : Chg} {cs : List Chg} (h1 : timeB c.1 = false) : chk a l (c :: cs) = 3 := by
  rw [chk, if_pos h1]
theorem chk_cons_4 {a : Int} {l : Loc} {c : Chg} {cs : List Chg} (h1 : timeB c.1 = true) (h2 : c.1 ≤ a) : chk a l (c :: cs) = 4 := by
  rw [chk, if_neg (by rw [h1]; simp), if_pos h2]
theorem chk_cons_l {a : Int} {l : Loc} {c : Chg} {cs : List Chg} (h1 : timeB c.1 = true) (h2 : a < c.1) (h3 : locE c.2 ≠ 0) : chk a l (c :: cs) = locE c.2 := by
  rw [chk, if_neg (by rw [h1]; simp), if_neg (by omega), if_pos h3]
theorem chk_cons_s {a : Int} {l : Loc} {c : Chg} {cs : List Chg} (h1 : timeB c.1 = true) (h2 : a < c.1) (h3 : locE c.2 = 0) (h4 : locEq c.2 l = true) : chk a l (c :: cs) = 4 := by
  rw [chk, if_neg (by rw [h1]; simp), if_neg (by omega), if_neg (by simp [h3]), if_pos h4]

end Go.Proofs.YtgjchdhdopgkkaaDoor
