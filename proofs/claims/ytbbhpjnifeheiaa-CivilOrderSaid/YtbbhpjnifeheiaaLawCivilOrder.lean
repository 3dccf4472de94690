/-
  CivilOrder answers true, whatever dates it is handed, and leaves them as they were. No condition.
-/
import Derived.Test.YtbbhpjnifeheiaaLawCivA
import Derived.Test.YtbbhpjnifeheiaaOpenCiv
set_option linter.unusedVariables false
set_option linter.unusedSimpArgs false
namespace Go.Proofs.Ytbbhpjnifeheiaa.civilOrder
open Go.ChangeShapes Go.WideShapes Go.ChangeAt Go.RowKit Go.Sort Civ

set_option maxHeartbeats 1000000 in
theorem walk_no (y m d y' m' d' : Int) (w : World) (h : ¬ (isDate y m d = true ∧ isDate y' m' d' = true)) :
    Calls Try.prog 4 #[.agg #[.int .i64 y, .int .i64 m, .int .i64 d], .agg #[.int .i64 y', .int .i64 m', .int .i64 d']] w fun e w' => e = .returned (.bool true) ∧ Below w.heap.size w w' := by
  cases h1 : isDate y m d
  all_goals cases h2 : isDate y' m' d'
  case true.true => exact absurd ⟨h1, h2⟩ h
  all_goals
    have h1' := Lib.hid h1; clear h1
    have h2' := Lib.hid h2; clear h2 h
    go_enter Try.func4, Try.ntmps4
    go_wp2_with (go_step)
    generalize hW_ : (w.alloc (.cells #[.int .i64 y, .int .i64 m, .int .i64 d] 23)).alloc (.cells #[.int .i64 y', .int .i64 m', .int .i64 d'] 23) = W
    have a0 : W.cell? ⟨w.heap.size, 0, none⟩ = some (.int .i64 y) := by subst hW_; simp
    have af0 : W.frozen? ⟨w.heap.size, 0, none⟩ = false := by subst hW_; simp
    have a1 : W.cell? ⟨w.heap.size, 1, none⟩ = some (.int .i64 m) := by subst hW_; simp
    have af1 : W.frozen? ⟨w.heap.size, 1, none⟩ = false := by subst hW_; simp
    have a2 : W.cell? ⟨w.heap.size, 2, none⟩ = some (.int .i64 d) := by subst hW_; simp
    have af2 : W.frozen? ⟨w.heap.size, 2, none⟩ = false := by subst hW_; simp
    have b0 : W.cell? ⟨w.heap.size + 1, 0, none⟩ = some (.int .i64 y') := by subst hW_; simp
    have bf0 : W.frozen? ⟨w.heap.size + 1, 0, none⟩ = false := by subst hW_; simp
    have b1 : W.cell? ⟨w.heap.size + 1, 1, none⟩ = some (.int .i64 m') := by subst hW_; simp
    have bf1 : W.frozen? ⟨w.heap.size + 1, 1, none⟩ = false := by subst hW_; simp
    have b2 : W.cell? ⟨w.heap.size + 1, 2, none⟩ = some (.int .i64 d') := by subst hW_; simp
    have bf2 : W.frozen? ⟨w.heap.size + 1, 2, none⟩ = false := by subst hW_; simp
    have hbW : Hid (Below w.heap.size w W) := Lib.hid (by subst hW_; exact (((Below.refl _ _).alloc (by simp) _).alloc (by simp) _))
    have hz : w.heap.size + 1 < W.heap.size := by subst hW_; simp
    clear hW_
    first | refine (days_no _ _ _ _ h1'.out).mono ?_ | refine (days_ok _ _ _ _ h1'.out).mono ?_
    rintro e w1 ⟨rfl, hb1⟩
    replace a0 := (hb1.cell (p := ⟨w.heap.size, 0, none⟩) (by simp; omega)).trans a0
    replace af0 := (hb1.frozen (p := ⟨w.heap.size, 0, none⟩) (by simp; omega)).trans af0
    replace a1 := (hb1.cell (p := ⟨w.heap.size, 1, none⟩) (by simp; omega)).trans a1
    replace af1 := (hb1.frozen (p := ⟨w.heap.size, 1, none⟩) (by simp; omega)).trans af1
    replace a2 := (hb1.cell (p := ⟨w.heap.size, 2, none⟩) (by simp; omega)).trans a2
    replace af2 := (hb1.frozen (p := ⟨w.heap.size, 2, none⟩) (by simp; omega)).trans af2
    replace b0 := (hb1.cell (p := ⟨w.heap.size + 1, 0, none⟩) (by simp; omega)).trans b0
    replace bf0 := (hb1.frozen (p := ⟨w.heap.size + 1, 0, none⟩) (by simp; omega)).trans bf0
    replace b1 := (hb1.cell (p := ⟨w.heap.size + 1, 1, none⟩) (by simp; omega)).trans b1
    replace bf1 := (hb1.frozen (p := ⟨w.heap.size + 1, 1, none⟩) (by simp; omega)).trans bf1
    replace b2 := (hb1.cell (p := ⟨w.heap.size + 1, 2, none⟩) (by simp; omega)).trans b2
    replace bf2 := (hb1.frozen (p := ⟨w.heap.size + 1, 2, none⟩) (by simp; omega)).trans bf2
    replace hbW := Lib.hid (hbW.out.trans (hb1.mono (by omega)))
    replace hz := Nat.lt_of_lt_of_le hz hb1.size
    go_wp2_with fail
    first | refine (days_no _ _ _ _ h2'.out).mono ?_ | refine (days_ok _ _ _ _ h2'.out).mono ?_
    rintro e w2 ⟨rfl, hb2⟩
    replace a0 := (hb2.cell (p := ⟨w.heap.size, 0, none⟩) (by simp; omega)).trans a0
    replace af0 := (hb2.frozen (p := ⟨w.heap.size, 0, none⟩) (by simp; omega)).trans af0
    replace a1 := (hb2.cell (p := ⟨w.heap.size, 1, none⟩) (by simp; omega)).trans a1
    replace af1 := (hb2.frozen (p := ⟨w.heap.size, 1, none⟩) (by simp; omega)).trans af1
    replace a2 := (hb2.cell (p := ⟨w.heap.size, 2, none⟩) (by simp; omega)).trans a2
    replace af2 := (hb2.frozen (p := ⟨w.heap.size, 2, none⟩) (by simp; omega)).trans af2
    replace b0 := (hb2.cell (p := ⟨w.heap.size + 1, 0, none⟩) (by simp; omega)).trans b0
    replace bf0 := (hb2.frozen (p := ⟨w.heap.size + 1, 0, none⟩) (by simp; omega)).trans bf0
    replace b1 := (hb2.cell (p := ⟨w.heap.size + 1, 1, none⟩) (by simp; omega)).trans b1
    replace bf1 := (hb2.frozen (p := ⟨w.heap.size + 1, 1, none⟩) (by simp; omega)).trans bf1
    replace b2 := (hb2.cell (p := ⟨w.heap.size + 1, 2, none⟩) (by simp; omega)).trans b2
    replace bf2 := (hb2.frozen (p := ⟨w.heap.size + 1, 2, none⟩) (by simp; omega)).trans bf2
    replace hbW := Lib.hid (hbW.out.trans (hb2.mono (by omega)))
    replace hz := Nat.lt_of_lt_of_le hz hb2.size
    go_wp2_with fail
    refine (civilBegun_any _).mono ?_
    rintro e w3 ⟨rfl, hb3⟩
    replace hbW := Lib.hid (hbW.out.trans (hb3.mono (by omega)))
    replace hz := Nat.lt_of_lt_of_le hz hb3.size
    go_wp2_with fail
    go_ret
    exact ⟨rfl, hbW.out⟩

set_option maxHeartbeats 1000000 in
theorem walk_ok (y m d y' m' d' : Int) (w : World) (h1 : isDate y m d = true) (h2 : isDate y' m' d' = true)
    (hc : y < y' ∨ y' < y ∨ y = y' ∧ (m < m' ∨ m' < m ∨ m = m' ∧ (d < d' ∨ d' < d ∨ d = d'))) :
    Calls Try.prog 4 #[.agg #[.int .i64 y, .int .i64 m, .int .i64 d], .agg #[.int .i64 y', .int .i64 m', .int .i64 d']] w fun e w' => e = .returned (.bool true) ∧ Below w.heap.size w w' := by
  rcases hc with hc | hc | ⟨rfl, hc | hc | ⟨rfl, hc | hc | rfl⟩⟩
  case inr.inr.inr.inr.inr.inr =>
    have h1' := Lib.hid h1; clear h1 h2
    go_enter Try.func4, Try.ntmps4
    go_wp2_with (go_step)
    generalize hW_ : (w.alloc (.cells #[.int .i64 y, .int .i64 m, .int .i64 d] 23)).alloc (.cells #[.int .i64 y, .int .i64 m, .int .i64 d] 23) = W
    have a0 : W.cell? ⟨w.heap.size, 0, none⟩ = some (.int .i64 y) := by subst hW_; simp
    have af0 : W.frozen? ⟨w.heap.size, 0, none⟩ = false := by subst hW_; simp
    have a1 : W.cell? ⟨w.heap.size, 1, none⟩ = some (.int .i64 m) := by subst hW_; simp
    have af1 : W.frozen? ⟨w.heap.size, 1, none⟩ = false := by subst hW_; simp
    have a2 : W.cell? ⟨w.heap.size, 2, none⟩ = some (.int .i64 d) := by subst hW_; simp
    have af2 : W.frozen? ⟨w.heap.size, 2, none⟩ = false := by subst hW_; simp
    have b0 : W.cell? ⟨w.heap.size + 1, 0, none⟩ = some (.int .i64 y) := by subst hW_; simp
    have bf0 : W.frozen? ⟨w.heap.size + 1, 0, none⟩ = false := by subst hW_; simp
    have b1 : W.cell? ⟨w.heap.size + 1, 1, none⟩ = some (.int .i64 m) := by subst hW_; simp
    have bf1 : W.frozen? ⟨w.heap.size + 1, 1, none⟩ = false := by subst hW_; simp
    have b2 : W.cell? ⟨w.heap.size + 1, 2, none⟩ = some (.int .i64 d) := by subst hW_; simp
    have bf2 : W.frozen? ⟨w.heap.size + 1, 2, none⟩ = false := by subst hW_; simp
    have hbW : Hid (Below w.heap.size w W) := Lib.hid (by subst hW_; exact (((Below.refl _ _).alloc (by simp) _).alloc (by simp) _))
    have hz : w.heap.size + 1 < W.heap.size := by subst hW_; simp
    clear hW_
    refine (days_ok _ _ _ _ h1'.out).mono ?_
    rintro e w1 ⟨rfl, hb1⟩
    replace a0 := (hb1.cell (p := ⟨w.heap.size, 0, none⟩) (by simp; omega)).trans a0
    replace af0 := (hb1.frozen (p := ⟨w.heap.size, 0, none⟩) (by simp; omega)).trans af0
    replace a1 := (hb1.cell (p := ⟨w.heap.size, 1, none⟩) (by simp; omega)).trans a1
    replace af1 := (hb1.frozen (p := ⟨w.heap.size, 1, none⟩) (by simp; omega)).trans af1
    replace a2 := (hb1.cell (p := ⟨w.heap.size, 2, none⟩) (by simp; omega)).trans a2
    replace af2 := (hb1.frozen (p := ⟨w.heap.size, 2, none⟩) (by simp; omega)).trans af2
    replace b0 := (hb1.cell (p := ⟨w.heap.size + 1, 0, none⟩) (by simp; omega)).trans b0
    replace bf0 := (hb1.frozen (p := ⟨w.heap.size + 1, 0, none⟩) (by simp; omega)).trans bf0
    replace b1 := (hb1.cell (p := ⟨w.heap.size + 1, 1, none⟩) (by simp; omega)).trans b1
    replace bf1 := (hb1.frozen (p := ⟨w.heap.size + 1, 1, none⟩) (by simp; omega)).trans bf1
    replace b2 := (hb1.cell (p := ⟨w.heap.size + 1, 2, none⟩) (by simp; omega)).trans b2
    replace bf2 := (hb1.frozen (p := ⟨w.heap.size + 1, 2, none⟩) (by simp; omega)).trans bf2
    replace hbW := Lib.hid (hbW.out.trans (hb1.mono (by omega)))
    replace hz := Nat.lt_of_lt_of_le hz hb1.size
    go_wp2_with fail
    refine (days_ok _ _ _ _ h1'.out).mono ?_
    rintro e w2 ⟨rfl, hb2⟩
    replace a0 := (hb2.cell (p := ⟨w.heap.size, 0, none⟩) (by simp; omega)).trans a0
    replace af0 := (hb2.frozen (p := ⟨w.heap.size, 0, none⟩) (by simp; omega)).trans af0
    replace a1 := (hb2.cell (p := ⟨w.heap.size, 1, none⟩) (by simp; omega)).trans a1
    replace af1 := (hb2.frozen (p := ⟨w.heap.size, 1, none⟩) (by simp; omega)).trans af1
    replace a2 := (hb2.cell (p := ⟨w.heap.size, 2, none⟩) (by simp; omega)).trans a2
    replace af2 := (hb2.frozen (p := ⟨w.heap.size, 2, none⟩) (by simp; omega)).trans af2
    replace b0 := (hb2.cell (p := ⟨w.heap.size + 1, 0, none⟩) (by simp; omega)).trans b0
    replace bf0 := (hb2.frozen (p := ⟨w.heap.size + 1, 0, none⟩) (by simp; omega)).trans bf0
    replace b1 := (hb2.cell (p := ⟨w.heap.size + 1, 1, none⟩) (by simp; omega)).trans b1
    replace bf1 := (hb2.frozen (p := ⟨w.heap.size + 1, 1, none⟩) (by simp; omega)).trans bf1
    replace b2 := (hb2.cell (p := ⟨w.heap.size + 1, 2, none⟩) (by simp; omega)).trans b2
    replace bf2 := (hb2.frozen (p := ⟨w.heap.size + 1, 2, none⟩) (by simp; omega)).trans bf2
    replace hbW := Lib.hid (hbW.out.trans (hb2.mono (by omega)))
    replace hz := Nat.lt_of_lt_of_le hz hb2.size
    go_wp2_with fail
    refine (civilBegun_any _).mono ?_
    rintro e w3 ⟨rfl, hb3⟩
    replace a0 := (hb3.cell (p := ⟨w.heap.size, 0, none⟩) (by simp; omega)).trans a0
    replace af0 := (hb3.frozen (p := ⟨w.heap.size, 0, none⟩) (by simp; omega)).trans af0
    replace a1 := (hb3.cell (p := ⟨w.heap.size, 1, none⟩) (by simp; omega)).trans a1
    replace af1 := (hb3.frozen (p := ⟨w.heap.size, 1, none⟩) (by simp; omega)).trans af1
    replace a2 := (hb3.cell (p := ⟨w.heap.size, 2, none⟩) (by simp; omega)).trans a2
    replace af2 := (hb3.frozen (p := ⟨w.heap.size, 2, none⟩) (by simp; omega)).trans af2
    replace b0 := (hb3.cell (p := ⟨w.heap.size + 1, 0, none⟩) (by simp; omega)).trans b0
    replace bf0 := (hb3.frozen (p := ⟨w.heap.size + 1, 0, none⟩) (by simp; omega)).trans bf0
    replace b1 := (hb3.cell (p := ⟨w.heap.size + 1, 1, none⟩) (by simp; omega)).trans b1
    replace bf1 := (hb3.frozen (p := ⟨w.heap.size + 1, 1, none⟩) (by simp; omega)).trans bf1
    replace b2 := (hb3.cell (p := ⟨w.heap.size + 1, 2, none⟩) (by simp; omega)).trans b2
    replace bf2 := (hb3.frozen (p := ⟨w.heap.size + 1, 2, none⟩) (by simp; omega)).trans bf2
    replace hbW := Lib.hid (hbW.out.trans (hb3.mono (by omega)))
    replace hz := Nat.lt_of_lt_of_le hz hb3.size
    go_wp2_with fail
    go_ret
    exact ⟨ret_bool (by simp), hbW.out⟩
  case inl =>
    have hn := num_lt_year h1 h2 hc
    have hyb : (y == y') = false := by rw [beq_eq_false_iff_ne]; omega
    have hnb : (num y m d == num y' m' d') = false := by rw [beq_eq_false_iff_ne]; omega
    have h1' := Lib.hid h1; clear h1
    have h2' := Lib.hid h2; clear h2
    go_enter Try.func4, Try.ntmps4
    go_wp2_with (go_step)
    generalize hW_ : (w.alloc (.cells #[.int .i64 y, .int .i64 m, .int .i64 d] 23)).alloc (.cells #[.int .i64 y', .int .i64 m', .int .i64 d'] 23) = W
    have a0 : W.cell? ⟨w.heap.size, 0, none⟩ = some (.int .i64 y) := by subst hW_; simp
    have af0 : W.frozen? ⟨w.heap.size, 0, none⟩ = false := by subst hW_; simp
    have a1 : W.cell? ⟨w.heap.size, 1, none⟩ = some (.int .i64 m) := by subst hW_; simp
    have af1 : W.frozen? ⟨w.heap.size, 1, none⟩ = false := by subst hW_; simp
    have a2 : W.cell? ⟨w.heap.size, 2, none⟩ = some (.int .i64 d) := by subst hW_; simp
    have af2 : W.frozen? ⟨w.heap.size, 2, none⟩ = false := by subst hW_; simp
    have b0 : W.cell? ⟨w.heap.size + 1, 0, none⟩ = some (.int .i64 y') := by subst hW_; simp
    have bf0 : W.frozen? ⟨w.heap.size + 1, 0, none⟩ = false := by subst hW_; simp
    have b1 : W.cell? ⟨w.heap.size + 1, 1, none⟩ = some (.int .i64 m') := by subst hW_; simp
    have bf1 : W.frozen? ⟨w.heap.size + 1, 1, none⟩ = false := by subst hW_; simp
    have b2 : W.cell? ⟨w.heap.size + 1, 2, none⟩ = some (.int .i64 d') := by subst hW_; simp
    have bf2 : W.frozen? ⟨w.heap.size + 1, 2, none⟩ = false := by subst hW_; simp
    have hbW : Hid (Below w.heap.size w W) := Lib.hid (by subst hW_; exact (((Below.refl _ _).alloc (by simp) _).alloc (by simp) _))
    have hz : w.heap.size + 1 < W.heap.size := by subst hW_; simp
    clear hW_
    refine (days_ok _ _ _ _ h1'.out).mono ?_
    rintro e w1 ⟨rfl, hb1⟩
    replace a0 := (hb1.cell (p := ⟨w.heap.size, 0, none⟩) (by simp; omega)).trans a0
    replace af0 := (hb1.frozen (p := ⟨w.heap.size, 0, none⟩) (by simp; omega)).trans af0
    replace a1 := (hb1.cell (p := ⟨w.heap.size, 1, none⟩) (by simp; omega)).trans a1
    replace af1 := (hb1.frozen (p := ⟨w.heap.size, 1, none⟩) (by simp; omega)).trans af1
    replace a2 := (hb1.cell (p := ⟨w.heap.size, 2, none⟩) (by simp; omega)).trans a2
    replace af2 := (hb1.frozen (p := ⟨w.heap.size, 2, none⟩) (by simp; omega)).trans af2
    replace b0 := (hb1.cell (p := ⟨w.heap.size + 1, 0, none⟩) (by simp; omega)).trans b0
    replace bf0 := (hb1.frozen (p := ⟨w.heap.size + 1, 0, none⟩) (by simp; omega)).trans bf0
    replace b1 := (hb1.cell (p := ⟨w.heap.size + 1, 1, none⟩) (by simp; omega)).trans b1
    replace bf1 := (hb1.frozen (p := ⟨w.heap.size + 1, 1, none⟩) (by simp; omega)).trans bf1
    replace b2 := (hb1.cell (p := ⟨w.heap.size + 1, 2, none⟩) (by simp; omega)).trans b2
    replace bf2 := (hb1.frozen (p := ⟨w.heap.size + 1, 2, none⟩) (by simp; omega)).trans bf2
    replace hbW := Lib.hid (hbW.out.trans (hb1.mono (by omega)))
    replace hz := Nat.lt_of_lt_of_le hz hb1.size
    go_wp2_with fail
    refine (days_ok _ _ _ _ h2'.out).mono ?_
    rintro e w2 ⟨rfl, hb2⟩
    replace a0 := (hb2.cell (p := ⟨w.heap.size, 0, none⟩) (by simp; omega)).trans a0
    replace af0 := (hb2.frozen (p := ⟨w.heap.size, 0, none⟩) (by simp; omega)).trans af0
    replace a1 := (hb2.cell (p := ⟨w.heap.size, 1, none⟩) (by simp; omega)).trans a1
    replace af1 := (hb2.frozen (p := ⟨w.heap.size, 1, none⟩) (by simp; omega)).trans af1
    replace a2 := (hb2.cell (p := ⟨w.heap.size, 2, none⟩) (by simp; omega)).trans a2
    replace af2 := (hb2.frozen (p := ⟨w.heap.size, 2, none⟩) (by simp; omega)).trans af2
    replace b0 := (hb2.cell (p := ⟨w.heap.size + 1, 0, none⟩) (by simp; omega)).trans b0
    replace bf0 := (hb2.frozen (p := ⟨w.heap.size + 1, 0, none⟩) (by simp; omega)).trans bf0
    replace b1 := (hb2.cell (p := ⟨w.heap.size + 1, 1, none⟩) (by simp; omega)).trans b1
    replace bf1 := (hb2.frozen (p := ⟨w.heap.size + 1, 1, none⟩) (by simp; omega)).trans bf1
    replace b2 := (hb2.cell (p := ⟨w.heap.size + 1, 2, none⟩) (by simp; omega)).trans b2
    replace bf2 := (hb2.frozen (p := ⟨w.heap.size + 1, 2, none⟩) (by simp; omega)).trans bf2
    replace hbW := Lib.hid (hbW.out.trans (hb2.mono (by omega)))
    replace hz := Nat.lt_of_lt_of_le hz hb2.size
    go_wp2_with fail
    refine (civilBegun_any _).mono ?_
    rintro e w3 ⟨rfl, hb3⟩
    replace a0 := (hb3.cell (p := ⟨w.heap.size, 0, none⟩) (by simp; omega)).trans a0
    replace af0 := (hb3.frozen (p := ⟨w.heap.size, 0, none⟩) (by simp; omega)).trans af0
    replace a1 := (hb3.cell (p := ⟨w.heap.size, 1, none⟩) (by simp; omega)).trans a1
    replace af1 := (hb3.frozen (p := ⟨w.heap.size, 1, none⟩) (by simp; omega)).trans af1
    replace a2 := (hb3.cell (p := ⟨w.heap.size, 2, none⟩) (by simp; omega)).trans a2
    replace af2 := (hb3.frozen (p := ⟨w.heap.size, 2, none⟩) (by simp; omega)).trans af2
    replace b0 := (hb3.cell (p := ⟨w.heap.size + 1, 0, none⟩) (by simp; omega)).trans b0
    replace bf0 := (hb3.frozen (p := ⟨w.heap.size + 1, 0, none⟩) (by simp; omega)).trans bf0
    replace b1 := (hb3.cell (p := ⟨w.heap.size + 1, 1, none⟩) (by simp; omega)).trans b1
    replace bf1 := (hb3.frozen (p := ⟨w.heap.size + 1, 1, none⟩) (by simp; omega)).trans bf1
    replace b2 := (hb3.cell (p := ⟨w.heap.size + 1, 2, none⟩) (by simp; omega)).trans b2
    replace bf2 := (hb3.frozen (p := ⟨w.heap.size + 1, 2, none⟩) (by simp; omega)).trans bf2
    replace hbW := Lib.hid (hbW.out.trans (hb3.mono (by omega)))
    replace hz := Nat.lt_of_lt_of_le hz hb3.size
    go_wp2_with fail
    go_ret
    exact ⟨ret_bool (by simp [hyb, hnb]), hbW.out⟩
  case inr.inl =>
    have hn := num_lt_year h2 h1 hc
    have hyb : (y == y') = false := by rw [beq_eq_false_iff_ne]; omega
    have hnb : (num y m d == num y' m' d') = false := by rw [beq_eq_false_iff_ne]; omega
    have h1' := Lib.hid h1; clear h1
    have h2' := Lib.hid h2; clear h2
    go_enter Try.func4, Try.ntmps4
    go_wp2_with (go_step)
    generalize hW_ : (w.alloc (.cells #[.int .i64 y, .int .i64 m, .int .i64 d] 23)).alloc (.cells #[.int .i64 y', .int .i64 m', .int .i64 d'] 23) = W
    have a0 : W.cell? ⟨w.heap.size, 0, none⟩ = some (.int .i64 y) := by subst hW_; simp
    have af0 : W.frozen? ⟨w.heap.size, 0, none⟩ = false := by subst hW_; simp
    have a1 : W.cell? ⟨w.heap.size, 1, none⟩ = some (.int .i64 m) := by subst hW_; simp
    have af1 : W.frozen? ⟨w.heap.size, 1, none⟩ = false := by subst hW_; simp
    have a2 : W.cell? ⟨w.heap.size, 2, none⟩ = some (.int .i64 d) := by subst hW_; simp
    have af2 : W.frozen? ⟨w.heap.size, 2, none⟩ = false := by subst hW_; simp
    have b0 : W.cell? ⟨w.heap.size + 1, 0, none⟩ = some (.int .i64 y') := by subst hW_; simp
    have bf0 : W.frozen? ⟨w.heap.size + 1, 0, none⟩ = false := by subst hW_; simp
    have b1 : W.cell? ⟨w.heap.size + 1, 1, none⟩ = some (.int .i64 m') := by subst hW_; simp
    have bf1 : W.frozen? ⟨w.heap.size + 1, 1, none⟩ = false := by subst hW_; simp
    have b2 : W.cell? ⟨w.heap.size + 1, 2, none⟩ = some (.int .i64 d') := by subst hW_; simp
    have bf2 : W.frozen? ⟨w.heap.size + 1, 2, none⟩ = false := by subst hW_; simp
    have hbW : Hid (Below w.heap.size w W) := Lib.hid (by subst hW_; exact (((Below.refl _ _).alloc (by simp) _).alloc (by simp) _))
    have hz : w.heap.size + 1 < W.heap.size := by subst hW_; simp
    clear hW_
    refine (days_ok _ _ _ _ h1'.out).mono ?_
    rintro e w1 ⟨rfl, hb1⟩
    replace a0 := (hb1.cell (p := ⟨w.heap.size, 0, none⟩) (by simp; omega)).trans a0
    replace af0 := (hb1.frozen (p := ⟨w.heap.size, 0, none⟩) (by simp; omega)).trans af0
    replace a1 := (hb1.cell (p := ⟨w.heap.size, 1, none⟩) (by simp; omega)).trans a1
    replace af1 := (hb1.frozen (p := ⟨w.heap.size, 1, none⟩) (by simp; omega)).trans af1
    replace a2 := (hb1.cell (p := ⟨w.heap.size, 2, none⟩) (by simp; omega)).trans a2
    replace af2 := (hb1.frozen (p := ⟨w.heap.size, 2, none⟩) (by simp; omega)).trans af2
    replace b0 := (hb1.cell (p := ⟨w.heap.size + 1, 0, none⟩) (by simp; omega)).trans b0
    replace bf0 := (hb1.frozen (p := ⟨w.heap.size + 1, 0, none⟩) (by simp; omega)).trans bf0
    replace b1 := (hb1.cell (p := ⟨w.heap.size + 1, 1, none⟩) (by simp; omega)).trans b1
    replace bf1 := (hb1.frozen (p := ⟨w.heap.size + 1, 1, none⟩) (by simp; omega)).trans bf1
    replace b2 := (hb1.cell (p := ⟨w.heap.size + 1, 2, none⟩) (by simp; omega)).trans b2
    replace bf2 := (hb1.frozen (p := ⟨w.heap.size + 1, 2, none⟩) (by simp; omega)).trans bf2
    replace hbW := Lib.hid (hbW.out.trans (hb1.mono (by omega)))
    replace hz := Nat.lt_of_lt_of_le hz hb1.size
    go_wp2_with fail
    refine (days_ok _ _ _ _ h2'.out).mono ?_
    rintro e w2 ⟨rfl, hb2⟩
    replace a0 := (hb2.cell (p := ⟨w.heap.size, 0, none⟩) (by simp; omega)).trans a0
    replace af0 := (hb2.frozen (p := ⟨w.heap.size, 0, none⟩) (by simp; omega)).trans af0
    replace a1 := (hb2.cell (p := ⟨w.heap.size, 1, none⟩) (by simp; omega)).trans a1
    replace af1 := (hb2.frozen (p := ⟨w.heap.size, 1, none⟩) (by simp; omega)).trans af1
    replace a2 := (hb2.cell (p := ⟨w.heap.size, 2, none⟩) (by simp; omega)).trans a2
    replace af2 := (hb2.frozen (p := ⟨w.heap.size, 2, none⟩) (by simp; omega)).trans af2
    replace b0 := (hb2.cell (p := ⟨w.heap.size + 1, 0, none⟩) (by simp; omega)).trans b0
    replace bf0 := (hb2.frozen (p := ⟨w.heap.size + 1, 0, none⟩) (by simp; omega)).trans bf0
    replace b1 := (hb2.cell (p := ⟨w.heap.size + 1, 1, none⟩) (by simp; omega)).trans b1
    replace bf1 := (hb2.frozen (p := ⟨w.heap.size + 1, 1, none⟩) (by simp; omega)).trans bf1
    replace b2 := (hb2.cell (p := ⟨w.heap.size + 1, 2, none⟩) (by simp; omega)).trans b2
    replace bf2 := (hb2.frozen (p := ⟨w.heap.size + 1, 2, none⟩) (by simp; omega)).trans bf2
    replace hbW := Lib.hid (hbW.out.trans (hb2.mono (by omega)))
    replace hz := Nat.lt_of_lt_of_le hz hb2.size
    go_wp2_with fail
    refine (civilBegun_any _).mono ?_
    rintro e w3 ⟨rfl, hb3⟩
    replace a0 := (hb3.cell (p := ⟨w.heap.size, 0, none⟩) (by simp; omega)).trans a0
    replace af0 := (hb3.frozen (p := ⟨w.heap.size, 0, none⟩) (by simp; omega)).trans af0
    replace a1 := (hb3.cell (p := ⟨w.heap.size, 1, none⟩) (by simp; omega)).trans a1
    replace af1 := (hb3.frozen (p := ⟨w.heap.size, 1, none⟩) (by simp; omega)).trans af1
    replace a2 := (hb3.cell (p := ⟨w.heap.size, 2, none⟩) (by simp; omega)).trans a2
    replace af2 := (hb3.frozen (p := ⟨w.heap.size, 2, none⟩) (by simp; omega)).trans af2
    replace b0 := (hb3.cell (p := ⟨w.heap.size + 1, 0, none⟩) (by simp; omega)).trans b0
    replace bf0 := (hb3.frozen (p := ⟨w.heap.size + 1, 0, none⟩) (by simp; omega)).trans bf0
    replace b1 := (hb3.cell (p := ⟨w.heap.size + 1, 1, none⟩) (by simp; omega)).trans b1
    replace bf1 := (hb3.frozen (p := ⟨w.heap.size + 1, 1, none⟩) (by simp; omega)).trans bf1
    replace b2 := (hb3.cell (p := ⟨w.heap.size + 1, 2, none⟩) (by simp; omega)).trans b2
    replace bf2 := (hb3.frozen (p := ⟨w.heap.size + 1, 2, none⟩) (by simp; omega)).trans bf2
    replace hbW := Lib.hid (hbW.out.trans (hb3.mono (by omega)))
    replace hz := Nat.lt_of_lt_of_le hz hb3.size
    go_wp2_with fail
    go_ret
    exact ⟨ret_bool (by simp [hyb, hnb]), hbW.out⟩
  case inr.inr.inl =>
    have hn := num_lt_month h1 h2 hc
    have hyb : (m == m') = false := by rw [beq_eq_false_iff_ne]; omega
    have hnb : (num y m d == num y m' d') = false := by rw [beq_eq_false_iff_ne]; omega
    have h1' := Lib.hid h1; clear h1
    have h2' := Lib.hid h2; clear h2
    go_enter Try.func4, Try.ntmps4
    go_wp2_with (go_step)
    generalize hW_ : (w.alloc (.cells #[.int .i64 y, .int .i64 m, .int .i64 d] 23)).alloc (.cells #[.int .i64 y, .int .i64 m', .int .i64 d'] 23) = W
    have a0 : W.cell? ⟨w.heap.size, 0, none⟩ = some (.int .i64 y) := by subst hW_; simp
    have af0 : W.frozen? ⟨w.heap.size, 0, none⟩ = false := by subst hW_; simp
    have a1 : W.cell? ⟨w.heap.size, 1, none⟩ = some (.int .i64 m) := by subst hW_; simp
    have af1 : W.frozen? ⟨w.heap.size, 1, none⟩ = false := by subst hW_; simp
    have a2 : W.cell? ⟨w.heap.size, 2, none⟩ = some (.int .i64 d) := by subst hW_; simp
    have af2 : W.frozen? ⟨w.heap.size, 2, none⟩ = false := by subst hW_; simp
    have b0 : W.cell? ⟨w.heap.size + 1, 0, none⟩ = some (.int .i64 y) := by subst hW_; simp
    have bf0 : W.frozen? ⟨w.heap.size + 1, 0, none⟩ = false := by subst hW_; simp
    have b1 : W.cell? ⟨w.heap.size + 1, 1, none⟩ = some (.int .i64 m') := by subst hW_; simp
    have bf1 : W.frozen? ⟨w.heap.size + 1, 1, none⟩ = false := by subst hW_; simp
    have b2 : W.cell? ⟨w.heap.size + 1, 2, none⟩ = some (.int .i64 d') := by subst hW_; simp
    have bf2 : W.frozen? ⟨w.heap.size + 1, 2, none⟩ = false := by subst hW_; simp
    have hbW : Hid (Below w.heap.size w W) := Lib.hid (by subst hW_; exact (((Below.refl _ _).alloc (by simp) _).alloc (by simp) _))
    have hz : w.heap.size + 1 < W.heap.size := by subst hW_; simp
    clear hW_
    refine (days_ok _ _ _ _ h1'.out).mono ?_
    rintro e w1 ⟨rfl, hb1⟩
    replace a0 := (hb1.cell (p := ⟨w.heap.size, 0, none⟩) (by simp; omega)).trans a0
    replace af0 := (hb1.frozen (p := ⟨w.heap.size, 0, none⟩) (by simp; omega)).trans af0
    replace a1 := (hb1.cell (p := ⟨w.heap.size, 1, none⟩) (by simp; omega)).trans a1
    replace af1 := (hb1.frozen (p := ⟨w.heap.size, 1, none⟩) (by simp; omega)).trans af1
    replace a2 := (hb1.cell (p := ⟨w.heap.size, 2, none⟩) (by simp; omega)).trans a2
    replace af2 := (hb1.frozen (p := ⟨w.heap.size, 2, none⟩) (by simp; omega)).trans af2
    replace b0 := (hb1.cell (p := ⟨w.heap.size + 1, 0, none⟩) (by simp; omega)).trans b0
    replace bf0 := (hb1.frozen (p := ⟨w.heap.size + 1, 0, none⟩) (by simp; omega)).trans bf0
    replace b1 := (hb1.cell (p := ⟨w.heap.size + 1, 1, none⟩) (by simp; omega)).trans b1
    replace bf1 := (hb1.frozen (p := ⟨w.heap.size + 1, 1, none⟩) (by simp; omega)).trans bf1
    replace b2 := (hb1.cell (p := ⟨w.heap.size + 1, 2, none⟩) (by simp; omega)).trans b2
    replace bf2 := (hb1.frozen (p := ⟨w.heap.size + 1, 2, none⟩) (by simp; omega)).trans bf2
    replace hbW := Lib.hid (hbW.out.trans (hb1.mono (by omega)))
    replace hz := Nat.lt_of_lt_of_le hz hb1.size
    go_wp2_with fail
    refine (days_ok _ _ _ _ h2'.out).mono ?_
    rintro e w2 ⟨rfl, hb2⟩
    replace a0 := (hb2.cell (p := ⟨w.heap.size, 0, none⟩) (by simp; omega)).trans a0
    replace af0 := (hb2.frozen (p := ⟨w.heap.size, 0, none⟩) (by simp; omega)).trans af0
    replace a1 := (hb2.cell (p := ⟨w.heap.size, 1, none⟩) (by simp; omega)).trans a1
    replace af1 := (hb2.frozen (p := ⟨w.heap.size, 1, none⟩) (by simp; omega)).trans af1
    replace a2 := (hb2.cell (p := ⟨w.heap.size, 2, none⟩) (by simp; omega)).trans a2
    replace af2 := (hb2.frozen (p := ⟨w.heap.size, 2, none⟩) (by simp; omega)).trans af2
    replace b0 := (hb2.cell (p := ⟨w.heap.size + 1, 0, none⟩) (by simp; omega)).trans b0
    replace bf0 := (hb2.frozen (p := ⟨w.heap.size + 1, 0, none⟩) (by simp; omega)).trans bf0
    replace b1 := (hb2.cell (p := ⟨w.heap.size + 1, 1, none⟩) (by simp; omega)).trans b1
    replace bf1 := (hb2.frozen (p := ⟨w.heap.size + 1, 1, none⟩) (by simp; omega)).trans bf1
    replace b2 := (hb2.cell (p := ⟨w.heap.size + 1, 2, none⟩) (by simp; omega)).trans b2
    replace bf2 := (hb2.frozen (p := ⟨w.heap.size + 1, 2, none⟩) (by simp; omega)).trans bf2
    replace hbW := Lib.hid (hbW.out.trans (hb2.mono (by omega)))
    replace hz := Nat.lt_of_lt_of_le hz hb2.size
    go_wp2_with fail
    refine (civilBegun_any _).mono ?_
    rintro e w3 ⟨rfl, hb3⟩
    replace a0 := (hb3.cell (p := ⟨w.heap.size, 0, none⟩) (by simp; omega)).trans a0
    replace af0 := (hb3.frozen (p := ⟨w.heap.size, 0, none⟩) (by simp; omega)).trans af0
    replace a1 := (hb3.cell (p := ⟨w.heap.size, 1, none⟩) (by simp; omega)).trans a1
    replace af1 := (hb3.frozen (p := ⟨w.heap.size, 1, none⟩) (by simp; omega)).trans af1
    replace a2 := (hb3.cell (p := ⟨w.heap.size, 2, none⟩) (by simp; omega)).trans a2
    replace af2 := (hb3.frozen (p := ⟨w.heap.size, 2, none⟩) (by simp; omega)).trans af2
    replace b0 := (hb3.cell (p := ⟨w.heap.size + 1, 0, none⟩) (by simp; omega)).trans b0
    replace bf0 := (hb3.frozen (p := ⟨w.heap.size + 1, 0, none⟩) (by simp; omega)).trans bf0
    replace b1 := (hb3.cell (p := ⟨w.heap.size + 1, 1, none⟩) (by simp; omega)).trans b1
    replace bf1 := (hb3.frozen (p := ⟨w.heap.size + 1, 1, none⟩) (by simp; omega)).trans bf1
    replace b2 := (hb3.cell (p := ⟨w.heap.size + 1, 2, none⟩) (by simp; omega)).trans b2
    replace bf2 := (hb3.frozen (p := ⟨w.heap.size + 1, 2, none⟩) (by simp; omega)).trans bf2
    replace hbW := Lib.hid (hbW.out.trans (hb3.mono (by omega)))
    replace hz := Nat.lt_of_lt_of_le hz hb3.size
    go_wp2_with fail
    go_ret
    exact ⟨ret_bool (by simp [hyb, hnb]), hbW.out⟩
  case inr.inr.inr.inl =>
    have hn := num_lt_month h2 h1 hc
    have hyb : (m == m') = false := by rw [beq_eq_false_iff_ne]; omega
    have hnb : (num y m d == num y m' d') = false := by rw [beq_eq_false_iff_ne]; omega
    have h1' := Lib.hid h1; clear h1
    have h2' := Lib.hid h2; clear h2
    go_enter Try.func4, Try.ntmps4
    go_wp2_with (go_step)
    generalize hW_ : (w.alloc (.cells #[.int .i64 y, .int .i64 m, .int .i64 d] 23)).alloc (.cells #[.int .i64 y, .int .i64 m', .int .i64 d'] 23) = W
    have a0 : W.cell? ⟨w.heap.size, 0, none⟩ = some (.int .i64 y) := by subst hW_; simp
    have af0 : W.frozen? ⟨w.heap.size, 0, none⟩ = false := by subst hW_; simp
    have a1 : W.cell? ⟨w.heap.size, 1, none⟩ = some (.int .i64 m) := by subst hW_; simp
    have af1 : W.frozen? ⟨w.heap.size, 1, none⟩ = false := by subst hW_; simp
    have a2 : W.cell? ⟨w.heap.size, 2, none⟩ = some (.int .i64 d) := by subst hW_; simp
    have af2 : W.frozen? ⟨w.heap.size, 2, none⟩ = false := by subst hW_; simp
    have b0 : W.cell? ⟨w.heap.size + 1, 0, none⟩ = some (.int .i64 y) := by subst hW_; simp
    have bf0 : W.frozen? ⟨w.heap.size + 1, 0, none⟩ = false := by subst hW_; simp
    have b1 : W.cell? ⟨w.heap.size + 1, 1, none⟩ = some (.int .i64 m') := by subst hW_; simp
    have bf1 : W.frozen? ⟨w.heap.size + 1, 1, none⟩ = false := by subst hW_; simp
    have b2 : W.cell? ⟨w.heap.size + 1, 2, none⟩ = some (.int .i64 d') := by subst hW_; simp
    have bf2 : W.frozen? ⟨w.heap.size + 1, 2, none⟩ = false := by subst hW_; simp
    have hbW : Hid (Below w.heap.size w W) := Lib.hid (by subst hW_; exact (((Below.refl _ _).alloc (by simp) _).alloc (by simp) _))
    have hz : w.heap.size + 1 < W.heap.size := by subst hW_; simp
    clear hW_
    refine (days_ok _ _ _ _ h1'.out).mono ?_
    rintro e w1 ⟨rfl, hb1⟩
    replace a0 := (hb1.cell (p := ⟨w.heap.size, 0, none⟩) (by simp; omega)).trans a0
    replace af0 := (hb1.frozen (p := ⟨w.heap.size, 0, none⟩) (by simp; omega)).trans af0
    replace a1 := (hb1.cell (p := ⟨w.heap.size, 1, none⟩) (by simp; omega)).trans a1
    replace af1 := (hb1.frozen (p := ⟨w.heap.size, 1, none⟩) (by simp; omega)).trans af1
    replace a2 := (hb1.cell (p := ⟨w.heap.size, 2, none⟩) (by simp; omega)).trans a2
    replace af2 := (hb1.frozen (p := ⟨w.heap.size, 2, none⟩) (by simp; omega)).trans af2
    replace b0 := (hb1.cell (p := ⟨w.heap.size + 1, 0, none⟩) (by simp; omega)).trans b0
    replace bf0 := (hb1.frozen (p := ⟨w.heap.size + 1, 0, none⟩) (by simp; omega)).trans bf0
    replace b1 := (hb1.cell (p := ⟨w.heap.size + 1, 1, none⟩) (by simp; omega)).trans b1
    replace bf1 := (hb1.frozen (p := ⟨w.heap.size + 1, 1, none⟩) (by simp; omega)).trans bf1
    replace b2 := (hb1.cell (p := ⟨w.heap.size + 1, 2, none⟩) (by simp; omega)).trans b2
    replace bf2 := (hb1.frozen (p := ⟨w.heap.size + 1, 2, none⟩) (by simp; omega)).trans bf2
    replace hbW := Lib.hid (hbW.out.trans (hb1.mono (by omega)))
    replace hz := Nat.lt_of_lt_of_le hz hb1.size
    go_wp2_with fail
    refine (days_ok _ _ _ _ h2'.out).mono ?_
    rintro e w2 ⟨rfl, hb2⟩
    replace a0 := (hb2.cell (p := ⟨w.heap.size, 0, none⟩) (by simp; omega)).trans a0
    replace af0 := (hb2.frozen (p := ⟨w.heap.size, 0, none⟩) (by simp; omega)).trans af0
    replace a1 := (hb2.cell (p := ⟨w.heap.size, 1, none⟩) (by simp; omega)).trans a1
    replace af1 := (hb2.frozen (p := ⟨w.heap.size, 1, none⟩) (by simp; omega)).trans af1
    replace a2 := (hb2.cell (p := ⟨w.heap.size, 2, none⟩) (by simp; omega)).trans a2
    replace af2 := (hb2.frozen (p := ⟨w.heap.size, 2, none⟩) (by simp; omega)).trans af2
    replace b0 := (hb2.cell (p := ⟨w.heap.size + 1, 0, none⟩) (by simp; omega)).trans b0
    replace bf0 := (hb2.frozen (p := ⟨w.heap.size + 1, 0, none⟩) (by simp; omega)).trans bf0
    replace b1 := (hb2.cell (p := ⟨w.heap.size + 1, 1, none⟩) (by simp; omega)).trans b1
    replace bf1 := (hb2.frozen (p := ⟨w.heap.size + 1, 1, none⟩) (by simp; omega)).trans bf1
    replace b2 := (hb2.cell (p := ⟨w.heap.size + 1, 2, none⟩) (by simp; omega)).trans b2
    replace bf2 := (hb2.frozen (p := ⟨w.heap.size + 1, 2, none⟩) (by simp; omega)).trans bf2
    replace hbW := Lib.hid (hbW.out.trans (hb2.mono (by omega)))
    replace hz := Nat.lt_of_lt_of_le hz hb2.size
    go_wp2_with fail
    refine (civilBegun_any _).mono ?_
    rintro e w3 ⟨rfl, hb3⟩
    replace a0 := (hb3.cell (p := ⟨w.heap.size, 0, none⟩) (by simp; omega)).trans a0
    replace af0 := (hb3.frozen (p := ⟨w.heap.size, 0, none⟩) (by simp; omega)).trans af0
    replace a1 := (hb3.cell (p := ⟨w.heap.size, 1, none⟩) (by simp; omega)).trans a1
    replace af1 := (hb3.frozen (p := ⟨w.heap.size, 1, none⟩) (by simp; omega)).trans af1
    replace a2 := (hb3.cell (p := ⟨w.heap.size, 2, none⟩) (by simp; omega)).trans a2
    replace af2 := (hb3.frozen (p := ⟨w.heap.size, 2, none⟩) (by simp; omega)).trans af2
    replace b0 := (hb3.cell (p := ⟨w.heap.size + 1, 0, none⟩) (by simp; omega)).trans b0
    replace bf0 := (hb3.frozen (p := ⟨w.heap.size + 1, 0, none⟩) (by simp; omega)).trans bf0
    replace b1 := (hb3.cell (p := ⟨w.heap.size + 1, 1, none⟩) (by simp; omega)).trans b1
    replace bf1 := (hb3.frozen (p := ⟨w.heap.size + 1, 1, none⟩) (by simp; omega)).trans bf1
    replace b2 := (hb3.cell (p := ⟨w.heap.size + 1, 2, none⟩) (by simp; omega)).trans b2
    replace bf2 := (hb3.frozen (p := ⟨w.heap.size + 1, 2, none⟩) (by simp; omega)).trans bf2
    replace hbW := Lib.hid (hbW.out.trans (hb3.mono (by omega)))
    replace hz := Nat.lt_of_lt_of_le hz hb3.size
    go_wp2_with fail
    go_ret
    exact ⟨ret_bool (by simp [hyb, hnb]), hbW.out⟩
  case inr.inr.inr.inr.inl =>
    have hn : num y m d < num y m d' := by unfold num; omega
    have hyb : (d == d') = false := by rw [beq_eq_false_iff_ne]; omega
    have hnb : (num y m d == num y m d') = false := by rw [beq_eq_false_iff_ne]; omega
    have h1' := Lib.hid h1; clear h1
    have h2' := Lib.hid h2; clear h2
    go_enter Try.func4, Try.ntmps4
    go_wp2_with (go_step)
    generalize hW_ : (w.alloc (.cells #[.int .i64 y, .int .i64 m, .int .i64 d] 23)).alloc (.cells #[.int .i64 y, .int .i64 m, .int .i64 d'] 23) = W
    have a0 : W.cell? ⟨w.heap.size, 0, none⟩ = some (.int .i64 y) := by subst hW_; simp
    have af0 : W.frozen? ⟨w.heap.size, 0, none⟩ = false := by subst hW_; simp
    have a1 : W.cell? ⟨w.heap.size, 1, none⟩ = some (.int .i64 m) := by subst hW_; simp
    have af1 : W.frozen? ⟨w.heap.size, 1, none⟩ = false := by subst hW_; simp
    have a2 : W.cell? ⟨w.heap.size, 2, none⟩ = some (.int .i64 d) := by subst hW_; simp
    have af2 : W.frozen? ⟨w.heap.size, 2, none⟩ = false := by subst hW_; simp
    have b0 : W.cell? ⟨w.heap.size + 1, 0, none⟩ = some (.int .i64 y) := by subst hW_; simp
    have bf0 : W.frozen? ⟨w.heap.size + 1, 0, none⟩ = false := by subst hW_; simp
    have b1 : W.cell? ⟨w.heap.size + 1, 1, none⟩ = some (.int .i64 m) := by subst hW_; simp
    have bf1 : W.frozen? ⟨w.heap.size + 1, 1, none⟩ = false := by subst hW_; simp
    have b2 : W.cell? ⟨w.heap.size + 1, 2, none⟩ = some (.int .i64 d') := by subst hW_; simp
    have bf2 : W.frozen? ⟨w.heap.size + 1, 2, none⟩ = false := by subst hW_; simp
    have hbW : Hid (Below w.heap.size w W) := Lib.hid (by subst hW_; exact (((Below.refl _ _).alloc (by simp) _).alloc (by simp) _))
    have hz : w.heap.size + 1 < W.heap.size := by subst hW_; simp
    clear hW_
    refine (days_ok _ _ _ _ h1'.out).mono ?_
    rintro e w1 ⟨rfl, hb1⟩
    replace a0 := (hb1.cell (p := ⟨w.heap.size, 0, none⟩) (by simp; omega)).trans a0
    replace af0 := (hb1.frozen (p := ⟨w.heap.size, 0, none⟩) (by simp; omega)).trans af0
    replace a1 := (hb1.cell (p := ⟨w.heap.size, 1, none⟩) (by simp; omega)).trans a1
    replace af1 := (hb1.frozen (p := ⟨w.heap.size, 1, none⟩) (by simp; omega)).trans af1
    replace a2 := (hb1.cell (p := ⟨w.heap.size, 2, none⟩) (by simp; omega)).trans a2
    replace af2 := (hb1.frozen (p := ⟨w.heap.size, 2, none⟩) (by simp; omega)).trans af2
    replace b0 := (hb1.cell (p := ⟨w.heap.size + 1, 0, none⟩) (by simp; omega)).trans b0
    replace bf0 := (hb1.frozen (p := ⟨w.heap.size + 1, 0, none⟩) (by simp; omega)).trans bf0
    replace b1 := (hb1.cell (p := ⟨w.heap.size + 1, 1, none⟩) (by simp; omega)).trans b1
    replace bf1 := (hb1.frozen (p := ⟨w.heap.size + 1, 1, none⟩) (by simp; omega)).trans bf1
    replace b2 := (hb1.cell (p := ⟨w.heap.size + 1, 2, none⟩) (by simp; omega)).trans b2
    replace bf2 := (hb1.frozen (p := ⟨w.heap.size + 1, 2, none⟩) (by simp; omega)).trans bf2
    replace hbW := Lib.hid (hbW.out.trans (hb1.mono (by omega)))
    replace hz := Nat.lt_of_lt_of_le hz hb1.size
    go_wp2_with fail
    refine (days_ok _ _ _ _ h2'.out).mono ?_
    rintro e w2 ⟨rfl, hb2⟩
    replace a0 := (hb2.cell (p := ⟨w.heap.size, 0, none⟩) (by simp; omega)).trans a0
    replace af0 := (hb2.frozen (p := ⟨w.heap.size, 0, none⟩) (by simp; omega)).trans af0
    replace a1 := (hb2.cell (p := ⟨w.heap.size, 1, none⟩) (by simp; omega)).trans a1
    replace af1 := (hb2.frozen (p := ⟨w.heap.size, 1, none⟩) (by simp; omega)).trans af1
    replace a2 := (hb2.cell (p := ⟨w.heap.size, 2, none⟩) (by simp; omega)).trans a2
    replace af2 := (hb2.frozen (p := ⟨w.heap.size, 2, none⟩) (by simp; omega)).trans af2
    replace b0 := (hb2.cell (p := ⟨w.heap.size + 1, 0, none⟩) (by simp; omega)).trans b0
    replace bf0 := (hb2.frozen (p := ⟨w.heap.size + 1, 0, none⟩) (by simp; omega)).trans bf0
    replace b1 := (hb2.cell (p := ⟨w.heap.size + 1, 1, none⟩) (by simp; omega)).trans b1
    replace bf1 := (hb2.frozen (p := ⟨w.heap.size + 1, 1, none⟩) (by simp; omega)).trans bf1
    replace b2 := (hb2.cell (p := ⟨w.heap.size + 1, 2, none⟩) (by simp; omega)).trans b2
    replace bf2 := (hb2.frozen (p := ⟨w.heap.size + 1, 2, none⟩) (by simp; omega)).trans bf2
    replace hbW := Lib.hid (hbW.out.trans (hb2.mono (by omega)))
    replace hz := Nat.lt_of_lt_of_le hz hb2.size
    go_wp2_with fail
    refine (civilBegun_any _).mono ?_
    rintro e w3 ⟨rfl, hb3⟩
    replace a0 := (hb3.cell (p := ⟨w.heap.size, 0, none⟩) (by simp; omega)).trans a0
    replace af0 := (hb3.frozen (p := ⟨w.heap.size, 0, none⟩) (by simp; omega)).trans af0
    replace a1 := (hb3.cell (p := ⟨w.heap.size, 1, none⟩) (by simp; omega)).trans a1
    replace af1 := (hb3.frozen (p := ⟨w.heap.size, 1, none⟩) (by simp; omega)).trans af1
    replace a2 := (hb3.cell (p := ⟨w.heap.size, 2, none⟩) (by simp; omega)).trans a2
    replace af2 := (hb3.frozen (p := ⟨w.heap.size, 2, none⟩) (by simp; omega)).trans af2
    replace b0 := (hb3.cell (p := ⟨w.heap.size + 1, 0, none⟩) (by simp; omega)).trans b0
    replace bf0 := (hb3.frozen (p := ⟨w.heap.size + 1, 0, none⟩) (by simp; omega)).trans bf0
    replace b1 := (hb3.cell (p := ⟨w.heap.size + 1, 1, none⟩) (by simp; omega)).trans b1
    replace bf1 := (hb3.frozen (p := ⟨w.heap.size + 1, 1, none⟩) (by simp; omega)).trans bf1
    replace b2 := (hb3.cell (p := ⟨w.heap.size + 1, 2, none⟩) (by simp; omega)).trans b2
    replace bf2 := (hb3.frozen (p := ⟨w.heap.size + 1, 2, none⟩) (by simp; omega)).trans bf2
    replace hbW := Lib.hid (hbW.out.trans (hb3.mono (by omega)))
    replace hz := Nat.lt_of_lt_of_le hz hb3.size
    go_wp2_with fail
    go_ret
    exact ⟨ret_bool (by simp [hyb, hnb]), hbW.out⟩
  case inr.inr.inr.inr.inr.inl =>
    have hn : num y m d' < num y m d := by unfold num; omega
    have hyb : (d == d') = false := by rw [beq_eq_false_iff_ne]; omega
    have hnb : (num y m d == num y m d') = false := by rw [beq_eq_false_iff_ne]; omega
    have h1' := Lib.hid h1; clear h1
    have h2' := Lib.hid h2; clear h2
    go_enter Try.func4, Try.ntmps4
    go_wp2_with (go_step)
    generalize hW_ : (w.alloc (.cells #[.int .i64 y, .int .i64 m, .int .i64 d] 23)).alloc (.cells #[.int .i64 y, .int .i64 m, .int .i64 d'] 23) = W
    have a0 : W.cell? ⟨w.heap.size, 0, none⟩ = some (.int .i64 y) := by subst hW_; simp
    have af0 : W.frozen? ⟨w.heap.size, 0, none⟩ = false := by subst hW_; simp
    have a1 : W.cell? ⟨w.heap.size, 1, none⟩ = some (.int .i64 m) := by subst hW_; simp
    have af1 : W.frozen? ⟨w.heap.size, 1, none⟩ = false := by subst hW_; simp
    have a2 : W.cell? ⟨w.heap.size, 2, none⟩ = some (.int .i64 d) := by subst hW_; simp
    have af2 : W.frozen? ⟨w.heap.size, 2, none⟩ = false := by subst hW_; simp
    have b0 : W.cell? ⟨w.heap.size + 1, 0, none⟩ = some (.int .i64 y) := by subst hW_; simp
    have bf0 : W.frozen? ⟨w.heap.size + 1, 0, none⟩ = false := by subst hW_; simp
    have b1 : W.cell? ⟨w.heap.size + 1, 1, none⟩ = some (.int .i64 m) := by subst hW_; simp
    have bf1 : W.frozen? ⟨w.heap.size + 1, 1, none⟩ = false := by subst hW_; simp
    have b2 : W.cell? ⟨w.heap.size + 1, 2, none⟩ = some (.int .i64 d') := by subst hW_; simp
    have bf2 : W.frozen? ⟨w.heap.size + 1, 2, none⟩ = false := by subst hW_; simp
    have hbW : Hid (Below w.heap.size w W) := Lib.hid (by subst hW_; exact (((Below.refl _ _).alloc (by simp) _).alloc (by simp) _))
    have hz : w.heap.size + 1 < W.heap.size := by subst hW_; simp
    clear hW_
    refine (days_ok _ _ _ _ h1'.out).mono ?_
    rintro e w1 ⟨rfl, hb1⟩
    replace a0 := (hb1.cell (p := ⟨w.heap.size, 0, none⟩) (by simp; omega)).trans a0
    replace af0 := (hb1.frozen (p := ⟨w.heap.size, 0, none⟩) (by simp; omega)).trans af0
    replace a1 := (hb1.cell (p := ⟨w.heap.size, 1, none⟩) (by simp; omega)).trans a1
    replace af1 := (hb1.frozen (p := ⟨w.heap.size, 1, none⟩) (by simp; omega)).trans af1
    replace a2 := (hb1.cell (p := ⟨w.heap.size, 2, none⟩) (by simp; omega)).trans a2
    replace af2 := (hb1.frozen (p := ⟨w.heap.size, 2, none⟩) (by simp; omega)).trans af2
    replace b0 := (hb1.cell (p := ⟨w.heap.size + 1, 0, none⟩) (by simp; omega)).trans b0
    replace bf0 := (hb1.frozen (p := ⟨w.heap.size + 1, 0, none⟩) (by simp; omega)).trans bf0
    replace b1 := (hb1.cell (p := ⟨w.heap.size + 1, 1, none⟩) (by simp; omega)).trans b1
    replace bf1 := (hb1.frozen (p := ⟨w.heap.size + 1, 1, none⟩) (by simp; omega)).trans bf1
    replace b2 := (hb1.cell (p := ⟨w.heap.size + 1, 2, none⟩) (by simp; omega)).trans b2
    replace bf2 := (hb1.frozen (p := ⟨w.heap.size + 1, 2, none⟩) (by simp; omega)).trans bf2
    replace hbW := Lib.hid (hbW.out.trans (hb1.mono (by omega)))
    replace hz := Nat.lt_of_lt_of_le hz hb1.size
    go_wp2_with fail
    refine (days_ok _ _ _ _ h2'.out).mono ?_
    rintro e w2 ⟨rfl, hb2⟩
    replace a0 := (hb2.cell (p := ⟨w.heap.size, 0, none⟩) (by simp; omega)).trans a0
    replace af0 := (hb2.frozen (p := ⟨w.heap.size, 0, none⟩) (by simp; omega)).trans af0
    replace a1 := (hb2.cell (p := ⟨w.heap.size, 1, none⟩) (by simp; omega)).trans a1
    replace af1 := (hb2.frozen (p := ⟨w.heap.size, 1, none⟩) (by simp; omega)).trans af1
    replace a2 := (hb2.cell (p := ⟨w.heap.size, 2, none⟩) (by simp; omega)).trans a2
    replace af2 := (hb2.frozen (p := ⟨w.heap.size, 2, none⟩) (by simp; omega)).trans af2
    replace b0 := (hb2.cell (p := ⟨w.heap.size + 1, 0, none⟩) (by simp; omega)).trans b0
    replace bf0 := (hb2.frozen (p := ⟨w.heap.size + 1, 0, none⟩) (by simp; omega)).trans bf0
    replace b1 := (hb2.cell (p := ⟨w.heap.size + 1, 1, none⟩) (by simp; omega)).trans b1
    replace bf1 := (hb2.frozen (p := ⟨w.heap.size + 1, 1, none⟩) (by simp; omega)).trans bf1
    replace b2 := (hb2.cell (p := ⟨w.heap.size + 1, 2, none⟩) (by simp; omega)).trans b2
    replace bf2 := (hb2.frozen (p := ⟨w.heap.size + 1, 2, none⟩) (by simp; omega)).trans bf2
    replace hbW := Lib.hid (hbW.out.trans (hb2.mono (by omega)))
    replace hz := Nat.lt_of_lt_of_le hz hb2.size
    go_wp2_with fail
    refine (civilBegun_any _).mono ?_
    rintro e w3 ⟨rfl, hb3⟩
    replace a0 := (hb3.cell (p := ⟨w.heap.size, 0, none⟩) (by simp; omega)).trans a0
    replace af0 := (hb3.frozen (p := ⟨w.heap.size, 0, none⟩) (by simp; omega)).trans af0
    replace a1 := (hb3.cell (p := ⟨w.heap.size, 1, none⟩) (by simp; omega)).trans a1
    replace af1 := (hb3.frozen (p := ⟨w.heap.size, 1, none⟩) (by simp; omega)).trans af1
    replace a2 := (hb3.cell (p := ⟨w.heap.size, 2, none⟩) (by simp; omega)).trans a2
    replace af2 := (hb3.frozen (p := ⟨w.heap.size, 2, none⟩) (by simp; omega)).trans af2
    replace b0 := (hb3.cell (p := ⟨w.heap.size + 1, 0, none⟩) (by simp; omega)).trans b0
    replace bf0 := (hb3.frozen (p := ⟨w.heap.size + 1, 0, none⟩) (by simp; omega)).trans bf0
    replace b1 := (hb3.cell (p := ⟨w.heap.size + 1, 1, none⟩) (by simp; omega)).trans b1
    replace bf1 := (hb3.frozen (p := ⟨w.heap.size + 1, 1, none⟩) (by simp; omega)).trans bf1
    replace b2 := (hb3.cell (p := ⟨w.heap.size + 1, 2, none⟩) (by simp; omega)).trans b2
    replace bf2 := (hb3.frozen (p := ⟨w.heap.size + 1, 2, none⟩) (by simp; omega)).trans bf2
    replace hbW := Lib.hid (hbW.out.trans (hb3.mono (by omega)))
    replace hz := Nat.lt_of_lt_of_le hz hb3.size
    go_wp2_with fail
    go_ret
    exact ⟨ret_bool (by simp [hyb, hnb]), hbW.out⟩

theorem walk (y m d y' m' d' : Int) (w : World) :
    Calls Try.prog 4 #[.agg #[.int .i64 y, .int .i64 m, .int .i64 d], .agg #[.int .i64 y', .int .i64 m', .int .i64 d']] w fun e w' => e = .returned (.bool true) ∧ Below w.heap.size w w' := by
  by_cases h : isDate y m d = true ∧ isDate y' m' d' = true
  · exact walk_ok y m d y' m' d' w h.1 h.2 (by omega)
  · exact walk_no y m d y' m' d' w h

set_option maxRecDepth 100000 in
theorem lifted (os : Os) (started : os.Started) (H : Type) (enc : TypeId × Value → H) :
    ReturnsInHanded {} Try.checked os 4 .any (Rows.civilOrderSpec.pre6 enc Try.prog Try.f4 Rows.civilOrderRow.domain false) (Rows.civilOrderSpec.post enc Try.prog Try.f4 false true false false) := by
  refine returnsInHanded_of_change (C := Try.checked) own started (by kernel_rfl) Try.func4
    (ChangeSpec.witness6 (enc := enc) (C := Try.checked) false ⟨#[], #[.agg #[.int .i64 0, .int .i64 0, .int .i64 0], .agg #[.int .i64 0, .int .i64 0, .int .i64 0]], []⟩ 8 (by kernel_rfl) (by kernel_rfl) (by kernel_rfl) (by kernel_rfl)) ?_
  intro W base args ds gs before hval0 hW0 _ _
  have hval : ∀ (j : Nat) t v, Try.f4.params[j]? = some t → args[j]? = some v → Value.okWide Try.prog W .any base t v := hval0
  have hW := hW0
  obtain ⟨p, q, hA0, _, _, _, _⟩ := hW
  have hA : DataW.TrodAll enc Try.prog W 0 (fun _ => true) true Try.f4.params.toList args.toList ds p := hA0
  have hfin : ∀ W', Below W.heap.size W W' → (∃ d, ds = d) → Rows.civilOrderSpec.fn H ds = { results := [.lit (.bool true)], args := ds } → Rows.civilOrderSpec.post enc Try.prog Try.f4 false true false false W args (.bool true) W' :=
    fun W' hb _ hs => law_post laidOut (by kernel_rfl) rfl Try.underlying4 rfl hs hW0 hb
  rw [Try.params4] at hA hval
  obtain ⟨v0, vs0, d0, ds0, p0, q0, hargs, rfl, rfl, h0, r0⟩ := trodAll_cons hA
  obtain ⟨v1, vs1, d1, ds1, p1, q1, rfl, rfl, rfl, h1, r1⟩ := trodAll_cons r0
  obtain ⟨rfl, rfl, rfl⟩ := trodAll_nil r1
  obtain rfl : args = #[v0, v1] := by cases args; simp_all
  obtain ⟨y, m, d, rfl, hy, hm, hd⟩ := open_date (hval 0 23 _ rfl rfl) h0
  obtain ⟨y', m', d', rfl, hy', hm', hd'⟩ := open_date (hval 1 23 _ rfl rfl) h1
  refine (walk y m d y' m' d' W).mono fun e W' ⟨he, hb⟩ => ?_
  subst he
  exact ⟨_, rfl, hfin W' hb ⟨_, rfl⟩ rfl⟩

theorem proved : Rows.CivilOrderSaid :=
  OpenClaim.holds_of_wide 4 Try.f4 rfl rfl rfl rfl rfl rfl rfl ⟨rfl, rfl, rfl, rfl, rfl⟩ rfl rfl rfl rfl rfl (by kernel_rfl) Try.func4 (by kernel_rfl)
    (of_decide_eq_true (by kernel_rfl)) (by unfold Func.isWrapper; first | (rw [if_pos (by decide +kernel)]; kernel_rfl) | (rw [if_neg (by decide +kernel)]; exact ⟨rfl, rfl⟩))
    (fun os started H enc _ => lifted os started H enc)

end Go.Proofs.Ytbbhpjnifeheiaa.civilOrder
