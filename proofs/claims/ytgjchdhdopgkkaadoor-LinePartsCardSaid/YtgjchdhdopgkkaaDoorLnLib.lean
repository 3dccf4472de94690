/-
  Plain data: a text cut at a sign; the library's words for it. No condition.
-/
import Derived.Test.YtgjchdhdopgkkaaDoorLnPlain
import Derived.Lib.SplitLaws
import Derived.Lib.Join
import Derived.Lib.IndexAny
set_option linter.unusedVariables false
set_option linter.unusedSimpArgs false
namespace Go.Proofs.YtgjchdhdopgkkaaDoor
open Go.Ab
/-- a text cut at each such sign -/
def cutC (x : UInt8) : Bs → List Bs
  | [] => [[]]
  | c :: l => if c = x then [] :: cutC x l else match cutC x l with
    | [] => [[c]]
    | y :: ys => (c :: y) :: ys
theorem cutC_ne (x : UInt8) : ∀ l, cutC x l ≠ []
  | [] => by simp [cutC]
  | c :: l => by
    unfold cutC
    split
    · simp
    · split <;> simp
theorem index_one_miss {x : UInt8} : ∀ {l : Bs}, Lib.index l [x] = -1 → cutC x l = [l]
  | [], _ => rfl
  | c :: l, h => by
    unfold Lib.index at h
    by_cases hc : x = c
    · subst hc; simp at h
    · have h0 : [x].isPrefixOf (c :: l) = false := by simp [List.isPrefixOf, hc]
      rw [h0] at h
      simp only [Bool.false_eq_true, if_false] at h
      have hm : Lib.index l [x] = -1 := by
        by_cases e : Lib.index l [x] = -1
        · exact e
        · rw [if_neg (by simpa using e)] at h
          have := Lib.index_ge l [x]
          omega
      rw [cutC, if_neg (Ne.symm hc), index_one_miss hm]
theorem index_one_hit {x : UInt8} : ∀ {l : Bs} {i : Nat}, Lib.index l [x] = i → cutC x l = l.take i :: cutC x (l.drop (i + 1)) ∧ i < l.length ∧ l[i]? = some x
  | [], i, h => by simp [Lib.index] at h
  | c :: l, i, h => by
    unfold Lib.index at h
    by_cases hc : x = c
    · subst hc
      simp at h
      obtain rfl : i = 0 := by omega
      simp [cutC]
    · have h0 : [x].isPrefixOf (c :: l) = false := by simp [List.isPrefixOf, hc]
      rw [h0] at h
      simp only [Bool.false_eq_true, if_false] at h
      have hge := Lib.index_ge l [x]
      by_cases e : Lib.index l [x] = -1
      · rw [if_pos (by simpa using e)] at h; omega
      · rw [if_neg (by simpa using e)] at h
        obtain ⟨j, rfl⟩ : ∃ j, i = j + 1 := ⟨i - 1, by omega⟩
        have hj : Lib.index l [x] = (j : Int) := by
          trace_state
          omega
        obtain ⟨h1, h2, h3⟩ := index_one_hit hj
        refine ⟨?_, by simp; omega, by simpa using h3⟩
        rw [cutC, if_neg (Ne.symm hc), h1]
        rfl
theorem splitK_one {x : UInt8} : ∀ (n : Nat) (l : Bs), l.length ≤ n → Lib.splitK [x] 0 (Lib.count l [x]) l = cutC x l
  | n, l, hn => by
    rcases Lib.index_spec l [x] with ⟨h1, _⟩ | ⟨i, h1, h2, _⟩
    · rw [Lib.count_miss h1, index_one_miss h1]; rfl
    · obtain ⟨e1, e2, _⟩ := index_one_hit h1
      rw [Lib.count_hit (by simp) h1, Nat.add_comm 1, Lib.splitK]
      have : ¬ (Lib.index l [x] == -1) = true := by rw [h1]; simp
      rw [if_neg this, h1, e1]
      simp only [Int.toNat_natCast, Nat.add_zero, List.length_singleton]
      cases n with
      | zero => omega
      | succ n => rw [splitK_one n _ (by rw [List.length_drop]; omega)]
theorem splitB_one (x : UInt8) (s : ByteArray) : Lib.splitB (bA [x]) 0 (Lib.countB s (bA [x])) s = (cutC x (aB s)).map bA := by
  have h := Lib.splitB_data (bA [x]) 0 (Lib.countB s (bA [x])) s
  rw [show (bA [x]).data.toList = [x] from rfl] at h
  have h2 := splitK_one (x := x) _ (aB s) (Nat.le_refl _)
  have h3 : (Lib.splitB (bA [x]) 0 (Lib.countB s (bA [x])) s).map aB = cutC x (aB s) := h.trans h2
  rw [← h3, List.map_map]
  have : (bA ∘ aB) = id := by funext z; rfl
  rw [this, List.map_id]
theorem countB_one (x : UInt8) (s : ByteArray) : Lib.countB s (bA [x]) + 1 = (cutC x (aB s)).length := by
  have h := Lib.splitB_all (bA [x]) (Nat.le_refl _) 0 _ s rfl
  rw [← h, splitB_one, List.length_map]
end Go.Proofs.YtgjchdhdopgkkaaDoor
