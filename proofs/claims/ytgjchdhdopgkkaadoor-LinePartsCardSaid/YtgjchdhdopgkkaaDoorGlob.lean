/-
  The package-level variables that this seat's code reads: where they lie, what they hold. No condition.
-/
import Derived.Test.YtgjchdhdopgkkaaDoorRows
import Derived.Calls
import Derived.Below
set_option linter.unusedVariables false
set_option linter.unusedSimpArgs false
namespace Go.Ab
/-- the blocks of the variables that are read -/
def GlobK : List Nat :=
  0 ::
  []
structure GlobW (w : World) : Prop where
  tt : True
  maxLen : ∃ m : Int, w.cell? ⟨0, 0, none⟩ = some (.int .i64 m)
theorem GlobW.keep {w w' : World} (h : GlobW w) (hk : ∀ k ∈ GlobK, w'.heap[k]? = w.heap[k]?) : GlobW w' where
  tt := trivial
  maxLen := by
    obtain ⟨m, hm⟩ := h.maxLen
    exact ⟨m, (World.cell?_of_block (w := w) (hk _ (by decide))).trans hm⟩
theorem lt_of_cellG {w : World} {b i : Nat} {v : Value} (h : w.cell? ⟨b, i, none⟩ = some v) : b < w.heap.size := by
  rcases Nat.lt_or_ge b w.heap.size with h' | h'
  · exact h'
  · simp [World.cell?, Array.getElem?_eq_none h'] at h
theorem GlobW.lt {w : World} (h : GlobW w) : ∀ k ∈ GlobK, k < w.heap.size := by
  obtain ⟨m, hm⟩ := h.maxLen
  have h1 := lt_of_cellG hm
  intro k hk
  simp only [GlobK, List.mem_cons, List.not_mem_nil, or_false] at hk
  omega
end Go.Ab
