/-
  The law helper civilBegun answers true. No condition.
-/
import Derived.Test.YtbbhpjnifeheiaaRefCivD
set_option linter.unusedVariables false
set_option linter.unusedSimpArgs false
namespace Go.Proofs.Ytbbhpjnifeheiaa
open Go.RowKit Go.Sort Civ

theorem begun_num : num 2000 2 29 = 11016 := by decide
theorem begun_date : dateOf 11016 = (2000, 2, 29) := dateOf_eq (by decide) begun_num
theorem begun_on : onV 2020 3 2 0 0 = ((2020, 3, 29), 0) := by decide +kernel
theorem begun_wd : wd 11016 = 2 := by decide

set_option maxHeartbeats 1000000 in
theorem civilBegun_any (w : World) :
    Calls Try.prog 10 #[] w fun e w' => e = .returned (.bool true) ∧ Below w.heap.size w w' := by
  have H1 := Lib.hid begun_num
  have H2 := Lib.hid begun_date
  have H3 := Lib.hid begun_on
  have H4 := Lib.hid begun_wd
  go_enter Try.func10, Try.ntmps10
  go_wp2_with fail
  refine (days_ok _ _ _ _ (by decide)).mono ?_
  rintro e w1 ⟨rfl, hb1⟩
  rw [H1.out]
  go_wp2_with fail
  refine (of_ok _ _ (by omega) (by omega)).mono ?_
  rintro e w2 ⟨rfl, hb2⟩
  rw [H2.out]
  dsimp only [dv]
  go_wp2_with fail
  refine (on_any _ _ _ _ _ _).mono ?_
  rintro e w3 ⟨rfl, hb3⟩
  rw [H3.out]
  dsimp only [dv]
  have e0 : w3.cell? ⟨w2.heap.size, 0, none⟩ = some (.int .i64 2000) := by rw [hb3.cell (by simp)]; simp
  have e1 : w3.cell? ⟨w2.heap.size, 1, none⟩ = some (.int .i64 2) := by rw [hb3.cell (by simp)]; simp
  have e2 : w3.cell? ⟨w2.heap.size, 2, none⟩ = some (.int .i64 29) := by rw [hb3.cell (by simp)]; simp
  have hz2 : w2.heap.size < w3.heap.size := by have := hb3.size; simp at this; omega
  go_wp2_with fail
  refine (weekday_any _ _).mono ?_
  rintro e w' ⟨rfl, rfl⟩
  rw [H4.out]
  go_wp2_with fail
  go_ret
  exact ⟨rfl, ((((hb1.trans (hb2.mono hb1.size)).alloc (Nat.le_trans hb1.size hb2.size) _).trans (hb3.mono (Nat.le_trans (Nat.le_trans hb1.size hb2.size) (by simp)))).alloc (by have := hb1.size; have := hb2.size; omega) _)⟩

end Go.Proofs.Ytbbhpjnifeheiaa
