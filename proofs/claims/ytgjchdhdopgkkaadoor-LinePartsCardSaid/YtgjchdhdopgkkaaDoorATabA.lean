/-
  Contracts of delta.common and datelineref.SameTable on plain data. No condition.
-/
import Derived.Test.YtgjchdhdopgkkaaDoorAbsE
import Derived.Test.YtgjchdhdopgkkaaDoorAPlain
set_option linter.unusedVariables false
set_option linter.unusedSimpArgs false
set_option maxRecDepth 100000
namespace Go.Proofs.YtgjchdhdopgkkaaDoor
open Go.Ab Civ
abbrev chgC (c : Chg) : List AV := [iv c.1, iv c.2.1, iv c.2.2.1, sv c.2.2.2]
theorem chg_lt {n : Nat} (l : List Chg) : AV.ltL n (rows chgC l) = true := rows_lt (fun _ _ => rfl) l
theorem chg_leaf (l : List Chg) : (rows chgC l).all leaf = true := rows_leaf (fun _ => rfl) l
theorem chg_len1 : ∀ x, (chgC x).length = 4 := fun _ => rfl
theorem chg_len (l : List Chg) : (rows chgC l).length = l.length * 4 := rows_len chg_len1 l
abbrev chS (l : List Chg) : AV := .sl l.length 4 false (rows chgC l)
abbrev tabA (t : Tab) : AV := .agg [iv t.1.1, iv t.1.2.1, sv t.1.2.2, chS t.2]
/-- how many changes two lists begin with alike -/
def com : List Chg → List Chg → Nat
  | a :: l, b :: m => if a = b then com l m + 1 else 0
  | _, _ => 0
theorem com_le : ∀ l m, com l m ≤ l.length ∧ com l m ≤ m.length
  | a :: l, b :: m => by
    have := com_le l m
    unfold com
    split <;> simp <;> omega
  | [], _ => by simp [com]
  | _ :: _, [] => by simp [com]
theorem com_step {l m : List Chg} {k : Nat} (h1 : k < l.length) (h2 : k < m.length) (h : l[k] = m[k]) : com (l.drop k) (m.drop k) = com (l.drop (k + 1)) (m.drop (k + 1)) + 1 := by
  rw [List.drop_eq_getElem_cons h1, List.drop_eq_getElem_cons h2, com, if_pos h]
theorem com_stop {l m : List Chg} {k : Nat} (h1 : k < l.length) (h2 : k < m.length) (h : l[k] ≠ m[k]) : com (l.drop k) (m.drop k) = 0 := by
  rw [List.drop_eq_getElem_cons h1, List.drop_eq_getElem_cons h2, com, if_neg h]
theorem com_end {l m : List Chg} {k : Nat} (h : l.length ≤ k ∨ m.length ≤ k) : com (l.drop k) (m.drop k) = 0 := by
  rcases h with h | h
  · rw [List.drop_eq_nil_of_le h]; rfl
  · rw [List.drop_eq_nil_of_le h]; cases l.drop k <;> rfl
theorem chg_ext {a b : Chg} (h : a.1 = b.1 ∧ a.2.1 = b.2.1 ∧ a.2.2.1 = b.2.2.1 ∧ a.2.2.2 = b.2.2.2) : a = b := by
  obtain ⟨a1, a2, a3, a4⟩ := a; obtain ⟨b1, b2, b3, b4⟩ := b; simp at h ⊢; exact h

end Go.Proofs.YtgjchdhdopgkkaaDoor
