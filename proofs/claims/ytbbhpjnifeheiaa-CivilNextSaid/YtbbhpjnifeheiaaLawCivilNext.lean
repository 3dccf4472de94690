/-
  CivilNext answers true, whatever date it is handed, and leaves it as it was. No condition.
-/
import Derived.Test.YtbbhpjnifeheiaaLawCivA
import Derived.Test.YtbbhpjnifeheiaaOpenCiv
set_option linter.unusedVariables false
set_option linter.unusedSimpArgs false
namespace Go.Proofs.Ytbbhpjnifeheiaa.civilNext
open Go.ChangeShapes Go.WideShapes Go.ChangeAt Go.RowKit Go.Sort Civ

theorem wd_next (n : Int) : wd (n + 1) = (wd n + 1) % 7 := by unfold wd; omega

set_option maxHeartbeats 1000000 in
theorem walk_no (y m d : Int) (w : World) (h : isDate y m d = false) :
    Calls Try.prog 7 #[.agg #[.int .i64 y, .int .i64 m, .int .i64 d]] w fun e w' => e = .returned (.bool true) ∧ Below w.heap.size w w' := by
  have hbW : Hid (Below w.heap.size w w) := Lib.hid (Below.refl _ _)
  have h' := Lib.hid h; clear h
  go_enter Try.func7, Try.ntmps7
  go_wp2_with (go_step)
  generalize hW_ : w.alloc (.cells #[.int .i64 y, .int .i64 m, .int .i64 d] 23) = W
  have a0 : W.cell? ⟨w.heap.size, 0, none⟩ = some (.int .i64 y) := by subst hW_; simp
  have af0 : W.frozen? ⟨w.heap.size, 0, none⟩ = false := by subst hW_; simp
  have a1 : W.cell? ⟨w.heap.size, 1, none⟩ = some (.int .i64 m) := by subst hW_; simp
  have af1 : W.frozen? ⟨w.heap.size, 1, none⟩ = false := by subst hW_; simp
  have a2 : W.cell? ⟨w.heap.size, 2, none⟩ = some (.int .i64 d) := by subst hW_; simp
  have af2 : W.frozen? ⟨w.heap.size, 2, none⟩ = false := by subst hW_; simp
  have lwa := hbW.out.size
  have hb_ : Below w.heap.size w W := by subst hW_; exact (Below.refl _ _).alloc (Nat.le_refl _) _
  have hza : w.heap.size < W.heap.size := by subst hW_; simp
  clear hW_
  replace hbW := Lib.hid (hbW.out.trans (hb_.mono hbW.out.size))
  clear hb_
  refine (days_no _ _ _ _ h'.out).mono ?_
  rintro e w1 ⟨rfl, hb1⟩
  replace a0 := (hb1.cell (p := ⟨w.heap.size, 0, none⟩) hza).trans a0
  replace af0 := (hb1.frozen (p := ⟨w.heap.size, 0, none⟩) hza).trans af0
  replace a1 := (hb1.cell (p := ⟨w.heap.size, 1, none⟩) hza).trans a1
  replace af1 := (hb1.frozen (p := ⟨w.heap.size, 1, none⟩) hza).trans af1
  replace a2 := (hb1.cell (p := ⟨w.heap.size, 2, none⟩) hza).trans a2
  replace af2 := (hb1.frozen (p := ⟨w.heap.size, 2, none⟩) hza).trans af2
  replace hza := Nat.lt_of_lt_of_le hza hb1.size
  replace hbW := Lib.hid (hbW.out.trans (hb1.mono hbW.out.size))
  go_wp2_with (go_step)
  refine (civilBegun_any _).mono ?_
  rintro e w2 ⟨rfl, hb2⟩
  replace a0 := (hb2.cell (p := ⟨w.heap.size, 0, none⟩) hza).trans a0
  replace af0 := (hb2.frozen (p := ⟨w.heap.size, 0, none⟩) hza).trans af0
  replace a1 := (hb2.cell (p := ⟨w.heap.size, 1, none⟩) hza).trans a1
  replace af1 := (hb2.frozen (p := ⟨w.heap.size, 1, none⟩) hza).trans af1
  replace a2 := (hb2.cell (p := ⟨w.heap.size, 2, none⟩) hza).trans a2
  replace af2 := (hb2.frozen (p := ⟨w.heap.size, 2, none⟩) hza).trans af2
  replace hza := Nat.lt_of_lt_of_le hza hb2.size
  replace hbW := Lib.hid (hbW.out.trans (hb2.mono hbW.out.size))
  go_wp2_with (go_step)
  go_ret
  exact ⟨rfl, hbW.out⟩

set_option maxHeartbeats 1000000 in
theorem walk_last (w : World) :
    Calls Try.prog 7 #[.agg #[.int .i64 9999, .int .i64 12, .int .i64 31]] w fun e w' => e = .returned (.bool true) ∧ Below w.heap.size w w' := by
  have hbW : Hid (Below w.heap.size w w) := Lib.hid (Below.refl _ _)
  have h : isDate 9999 12 31 = true := by decide
  have hnb : num 9999 12 31 = 2932896 := by decide
  have HP := Lib.hid (dateOf_eq h hnb)
  have HN := Lib.hid hnb
  have hwd := Lib.hid (wd_next 2932896)
  have hwb := wd_bd 2932896
  have h' := Lib.hid h; clear h hnb
  go_enter Try.func7, Try.ntmps7
  go_wp2_with (go_step)
  generalize hW_ : w.alloc (.cells #[.int .i64 (9999), .int .i64 (12), .int .i64 (31)] 23) = W
  have a0 : W.cell? ⟨w.heap.size, 0, none⟩ = some (.int .i64 (9999)) := by subst hW_; simp
  have af0 : W.frozen? ⟨w.heap.size, 0, none⟩ = false := by subst hW_; simp
  have a1 : W.cell? ⟨w.heap.size, 1, none⟩ = some (.int .i64 (12)) := by subst hW_; simp
  have af1 : W.frozen? ⟨w.heap.size, 1, none⟩ = false := by subst hW_; simp
  have a2 : W.cell? ⟨w.heap.size, 2, none⟩ = some (.int .i64 (31)) := by subst hW_; simp
  have af2 : W.frozen? ⟨w.heap.size, 2, none⟩ = false := by subst hW_; simp
  have lwa := hbW.out.size
  have hb_ : Below w.heap.size w W := by subst hW_; exact (Below.refl _ _).alloc (Nat.le_refl _) _
  have hza : w.heap.size < W.heap.size := by subst hW_; simp
  clear hW_
  replace hbW := Lib.hid (hbW.out.trans (hb_.mono hbW.out.size))
  clear hb_
  refine (days_ok _ _ _ _ h'.out).mono ?_
  rintro e w1 ⟨rfl, hb1⟩
  try rw [HN.out]
  replace a0 := (hb1.cell (p := ⟨w.heap.size, 0, none⟩) hza).trans a0
  replace af0 := (hb1.frozen (p := ⟨w.heap.size, 0, none⟩) hza).trans af0
  replace a1 := (hb1.cell (p := ⟨w.heap.size, 1, none⟩) hza).trans a1
  replace af1 := (hb1.frozen (p := ⟨w.heap.size, 1, none⟩) hza).trans af1
  replace a2 := (hb1.cell (p := ⟨w.heap.size, 2, none⟩) hza).trans a2
  replace af2 := (hb1.frozen (p := ⟨w.heap.size, 2, none⟩) hza).trans af2
  replace hza := Nat.lt_of_lt_of_le hza hb1.size
  replace hbW := Lib.hid (hbW.out.trans (hb1.mono hbW.out.size))
  go_wp2_with (go_step)
  refine (civilBegun_any _).mono ?_
  rintro e w2 ⟨rfl, hb2⟩
  replace a0 := (hb2.cell (p := ⟨w.heap.size, 0, none⟩) hza).trans a0
  replace af0 := (hb2.frozen (p := ⟨w.heap.size, 0, none⟩) hza).trans af0
  replace a1 := (hb2.cell (p := ⟨w.heap.size, 1, none⟩) hza).trans a1
  replace af1 := (hb2.frozen (p := ⟨w.heap.size, 1, none⟩) hza).trans af1
  replace a2 := (hb2.cell (p := ⟨w.heap.size, 2, none⟩) hza).trans a2
  replace af2 := (hb2.frozen (p := ⟨w.heap.size, 2, none⟩) hza).trans af2
  replace hza := Nat.lt_of_lt_of_le hza hb2.size
  replace hbW := Lib.hid (hbW.out.trans (hb2.mono hbW.out.size))
  go_wp2_with (go_step)
  refine (of_ok _ _ (by omega) (by omega)).mono ?_
  rintro e w3 ⟨rfl, hb3⟩
  rw [HP.out]
  dsimp only [dv]
  replace a0 := (hb3.cell (p := ⟨w.heap.size, 0, none⟩) hza).trans a0
  replace af0 := (hb3.frozen (p := ⟨w.heap.size, 0, none⟩) hza).trans af0
  replace a1 := (hb3.cell (p := ⟨w.heap.size, 1, none⟩) hza).trans a1
  replace af1 := (hb3.frozen (p := ⟨w.heap.size, 1, none⟩) hza).trans af1
  replace a2 := (hb3.cell (p := ⟨w.heap.size, 2, none⟩) hza).trans a2
  replace af2 := (hb3.frozen (p := ⟨w.heap.size, 2, none⟩) hza).trans af2
  replace hza := Nat.lt_of_lt_of_le hza hb3.size
  replace hbW := Lib.hid (hbW.out.trans (hb3.mono hbW.out.size))
  go_wp2_with (go_step)
  generalize hW_ : w3.alloc (.cells #[.int .i64 (9999), .int .i64 (12), .int .i64 (31)] 23) = V
  have b0 : V.cell? ⟨w3.heap.size, 0, none⟩ = some (.int .i64 (9999)) := by subst hW_; simp
  have bf0 : V.frozen? ⟨w3.heap.size, 0, none⟩ = false := by subst hW_; simp
  have b1 : V.cell? ⟨w3.heap.size, 1, none⟩ = some (.int .i64 (12)) := by subst hW_; simp
  have bf1 : V.frozen? ⟨w3.heap.size, 1, none⟩ = false := by subst hW_; simp
  have b2 : V.cell? ⟨w3.heap.size, 2, none⟩ = some (.int .i64 (31)) := by subst hW_; simp
  have bf2 : V.frozen? ⟨w3.heap.size, 2, none⟩ = false := by subst hW_; simp
  have lwb := hbW.out.size
  have lab := hza
  have hb_ : Below w3.heap.size w3 V := by subst hW_; exact (Below.refl _ _).alloc (Nat.le_refl _) _
  have hzb : w3.heap.size < V.heap.size := by subst hW_; simp
  clear hW_
  replace a0 := (hb_.cell (p := ⟨w.heap.size, 0, none⟩) hza).trans a0
  replace af0 := (hb_.frozen (p := ⟨w.heap.size, 0, none⟩) hza).trans af0
  replace a1 := (hb_.cell (p := ⟨w.heap.size, 1, none⟩) hza).trans a1
  replace af1 := (hb_.frozen (p := ⟨w.heap.size, 1, none⟩) hza).trans af1
  replace a2 := (hb_.cell (p := ⟨w.heap.size, 2, none⟩) hza).trans a2
  replace af2 := (hb_.frozen (p := ⟨w.heap.size, 2, none⟩) hza).trans af2
  replace hza := Nat.lt_of_lt_of_le hza hb_.size
  replace hbW := Lib.hid (hbW.out.trans (hb_.mono hbW.out.size))
  clear hb_
  go_wp2_with (first | (go_at_call 11; refine (weekday_any _ _).mono ?_; rintro e w' ⟨rfl, rfl⟩; try rw [hwd.out]) | go_step)
  refine (of_no _ _ (by omega)).mono ?_
  rintro e w4 ⟨rfl, hb4⟩
  dsimp only [dv]
  replace a0 := (hb4.cell (p := ⟨w.heap.size, 0, none⟩) hza).trans a0
  replace af0 := (hb4.frozen (p := ⟨w.heap.size, 0, none⟩) hza).trans af0
  replace a1 := (hb4.cell (p := ⟨w.heap.size, 1, none⟩) hza).trans a1
  replace af1 := (hb4.frozen (p := ⟨w.heap.size, 1, none⟩) hza).trans af1
  replace a2 := (hb4.cell (p := ⟨w.heap.size, 2, none⟩) hza).trans a2
  replace af2 := (hb4.frozen (p := ⟨w.heap.size, 2, none⟩) hza).trans af2
  replace hza := Nat.lt_of_lt_of_le hza hb4.size
  replace b0 := (hb4.cell (p := ⟨w3.heap.size, 0, none⟩) hzb).trans b0
  replace bf0 := (hb4.frozen (p := ⟨w3.heap.size, 0, none⟩) hzb).trans bf0
  replace b1 := (hb4.cell (p := ⟨w3.heap.size, 1, none⟩) hzb).trans b1
  replace bf1 := (hb4.frozen (p := ⟨w3.heap.size, 1, none⟩) hzb).trans bf1
  replace b2 := (hb4.cell (p := ⟨w3.heap.size, 2, none⟩) hzb).trans b2
  replace bf2 := (hb4.frozen (p := ⟨w3.heap.size, 2, none⟩) hzb).trans bf2
  replace hzb := Nat.lt_of_lt_of_le hzb hb4.size
  replace hbW := Lib.hid (hbW.out.trans (hb4.mono hbW.out.size))
  go_wp2_with (go_step)
  generalize hW_ : w4.alloc (.cells #[.int .i64 0, .int .i64 0, .int .i64 0] 23) = X
  have c0 : X.cell? ⟨w4.heap.size, 0, none⟩ = some (.int .i64 0) := by subst hW_; simp
  have cf0 : X.frozen? ⟨w4.heap.size, 0, none⟩ = false := by subst hW_; simp
  have c1 : X.cell? ⟨w4.heap.size, 1, none⟩ = some (.int .i64 0) := by subst hW_; simp
  have cf1 : X.frozen? ⟨w4.heap.size, 1, none⟩ = false := by subst hW_; simp
  have c2 : X.cell? ⟨w4.heap.size, 2, none⟩ = some (.int .i64 0) := by subst hW_; simp
  have cf2 : X.frozen? ⟨w4.heap.size, 2, none⟩ = false := by subst hW_; simp
  have lwc := hbW.out.size
  have lac := hza
  have lbc := hzb
  have hb_ : Below w4.heap.size w4 X := by subst hW_; exact (Below.refl _ _).alloc (Nat.le_refl _) _
  have hzc : w4.heap.size < X.heap.size := by subst hW_; simp
  clear hW_
  replace a0 := (hb_.cell (p := ⟨w.heap.size, 0, none⟩) hza).trans a0
  replace af0 := (hb_.frozen (p := ⟨w.heap.size, 0, none⟩) hza).trans af0
  replace a1 := (hb_.cell (p := ⟨w.heap.size, 1, none⟩) hza).trans a1
  replace af1 := (hb_.frozen (p := ⟨w.heap.size, 1, none⟩) hza).trans af1
  replace a2 := (hb_.cell (p := ⟨w.heap.size, 2, none⟩) hza).trans a2
  replace af2 := (hb_.frozen (p := ⟨w.heap.size, 2, none⟩) hza).trans af2
  replace hza := Nat.lt_of_lt_of_le hza hb_.size
  replace b0 := (hb_.cell (p := ⟨w3.heap.size, 0, none⟩) hzb).trans b0
  replace bf0 := (hb_.frozen (p := ⟨w3.heap.size, 0, none⟩) hzb).trans bf0
  replace b1 := (hb_.cell (p := ⟨w3.heap.size, 1, none⟩) hzb).trans b1
  replace bf1 := (hb_.frozen (p := ⟨w3.heap.size, 1, none⟩) hzb).trans bf1
  replace b2 := (hb_.cell (p := ⟨w3.heap.size, 2, none⟩) hzb).trans b2
  replace bf2 := (hb_.frozen (p := ⟨w3.heap.size, 2, none⟩) hzb).trans bf2
  replace hzb := Nat.lt_of_lt_of_le hzb hb_.size
  replace hbW := Lib.hid (hbW.out.trans (hb_.mono hbW.out.size))
  clear hb_
  go_ret
  exact ⟨ret_bool (by simp), hbW.out⟩

set_option maxHeartbeats 2000000 in
theorem walk_yes (y m d y' m' d' : Int) (w : World) (h : isDate y m d = true) (h2 : isDate y' m' d' = true) (hn : num y' m' d' = num y m d + 1)
    (hc : y' = y ∧ m' = m ∧ d' = d + 1 ∨ y' = y ∧ m' = m + 1 ∧ d' = 1 ∧ 28 ≤ d ∨ y' = y + 1 ∧ m' = 1 ∧ d' = 1 ∧ m = 12 ∧ d = 31) :
    Calls Try.prog 7 #[.agg #[.int .i64 y, .int .i64 m, .int .i64 d]] w fun e w' => e = .returned (.bool true) ∧ Below w.heap.size w w' := by
  have hbW : Hid (Below w.heap.size w w) := Lib.hid (Below.refl _ _)
  have hi := isDate_iff.1 h
  have hl := mlen_bd y m
  have hwd := Lib.hid (wd_next (num y m d))
  have hwb := wd_bd (num y m d)
  have hb := num_bd h
  have hb' := num_bd h2
  rw [hn] at hb'
  have hq1 : (y == y + 1) = false := by rw [beq_eq_false_iff_ne]; omega
  have hq2 : (m == m + 1) = false := by rw [beq_eq_false_iff_ne]; omega
  have hq3 : (y + 1 == y) = false := by rw [beq_eq_false_iff_ne]; omega
  have hq4 : (m + 1 == m) = false := by rw [beq_eq_false_iff_ne]; omega
  have HP := Lib.hid (dateOf_eq h rfl)
  have HP2 := Lib.hid (dateOf_eq h2 hn)
  have HN : Hid (num y m d = num y m d) := Lib.hid rfl
  have HN2 := Lib.hid hn
  have h' := Lib.hid h; clear h
  have h2' := Lib.hid h2; clear h2 hn
  rcases hc with ⟨rfl, rfl, rfl⟩ | ⟨rfl, rfl, rfl, hd28⟩ | ⟨rfl, rfl, rfl, rfl, rfl⟩
  · go_enter Try.func7, Try.ntmps7
    go_wp2_with (go_step)
    generalize hW_ : w.alloc (.cells #[.int .i64 (y'), .int .i64 (m'), .int .i64 (d)] 23) = W
    have a0 : W.cell? ⟨w.heap.size, 0, none⟩ = some (.int .i64 (y')) := by subst hW_; simp
    have af0 : W.frozen? ⟨w.heap.size, 0, none⟩ = false := by subst hW_; simp
    have a1 : W.cell? ⟨w.heap.size, 1, none⟩ = some (.int .i64 (m')) := by subst hW_; simp
    have af1 : W.frozen? ⟨w.heap.size, 1, none⟩ = false := by subst hW_; simp
    have a2 : W.cell? ⟨w.heap.size, 2, none⟩ = some (.int .i64 (d)) := by subst hW_; simp
    have af2 : W.frozen? ⟨w.heap.size, 2, none⟩ = false := by subst hW_; simp
    have lwa := hbW.out.size
    have hb_ : Below w.heap.size w W := by subst hW_; exact (Below.refl _ _).alloc (Nat.le_refl _) _
    have hza : w.heap.size < W.heap.size := by subst hW_; simp
    clear hW_
    replace hbW := Lib.hid (hbW.out.trans (hb_.mono hbW.out.size))
    clear hb_
    refine (days_ok _ _ _ _ h'.out).mono ?_
    rintro e w1 ⟨rfl, hb1⟩
    try rw [HN.out]
    replace a0 := (hb1.cell (p := ⟨w.heap.size, 0, none⟩) hza).trans a0
    replace af0 := (hb1.frozen (p := ⟨w.heap.size, 0, none⟩) hza).trans af0
    replace a1 := (hb1.cell (p := ⟨w.heap.size, 1, none⟩) hza).trans a1
    replace af1 := (hb1.frozen (p := ⟨w.heap.size, 1, none⟩) hza).trans af1
    replace a2 := (hb1.cell (p := ⟨w.heap.size, 2, none⟩) hza).trans a2
    replace af2 := (hb1.frozen (p := ⟨w.heap.size, 2, none⟩) hza).trans af2
    replace hza := Nat.lt_of_lt_of_le hza hb1.size
    replace hbW := Lib.hid (hbW.out.trans (hb1.mono hbW.out.size))
    go_wp2_with (go_step)
    refine (civilBegun_any _).mono ?_
    rintro e w2 ⟨rfl, hb2⟩
    replace a0 := (hb2.cell (p := ⟨w.heap.size, 0, none⟩) hza).trans a0
    replace af0 := (hb2.frozen (p := ⟨w.heap.size, 0, none⟩) hza).trans af0
    replace a1 := (hb2.cell (p := ⟨w.heap.size, 1, none⟩) hza).trans a1
    replace af1 := (hb2.frozen (p := ⟨w.heap.size, 1, none⟩) hza).trans af1
    replace a2 := (hb2.cell (p := ⟨w.heap.size, 2, none⟩) hza).trans a2
    replace af2 := (hb2.frozen (p := ⟨w.heap.size, 2, none⟩) hza).trans af2
    replace hza := Nat.lt_of_lt_of_le hza hb2.size
    replace hbW := Lib.hid (hbW.out.trans (hb2.mono hbW.out.size))
    go_wp2_with (go_step)
    refine (of_ok _ _ (by omega) (by omega)).mono ?_
    rintro e w3 ⟨rfl, hb3⟩
    rw [HP.out]
    dsimp only [dv]
    replace a0 := (hb3.cell (p := ⟨w.heap.size, 0, none⟩) hza).trans a0
    replace af0 := (hb3.frozen (p := ⟨w.heap.size, 0, none⟩) hza).trans af0
    replace a1 := (hb3.cell (p := ⟨w.heap.size, 1, none⟩) hza).trans a1
    replace af1 := (hb3.frozen (p := ⟨w.heap.size, 1, none⟩) hza).trans af1
    replace a2 := (hb3.cell (p := ⟨w.heap.size, 2, none⟩) hza).trans a2
    replace af2 := (hb3.frozen (p := ⟨w.heap.size, 2, none⟩) hza).trans af2
    replace hza := Nat.lt_of_lt_of_le hza hb3.size
    replace hbW := Lib.hid (hbW.out.trans (hb3.mono hbW.out.size))
    go_wp2_with (go_step)
    generalize hW_ : w3.alloc (.cells #[.int .i64 (y'), .int .i64 (m'), .int .i64 (d)] 23) = V
    have b0 : V.cell? ⟨w3.heap.size, 0, none⟩ = some (.int .i64 (y')) := by subst hW_; simp
    have bf0 : V.frozen? ⟨w3.heap.size, 0, none⟩ = false := by subst hW_; simp
    have b1 : V.cell? ⟨w3.heap.size, 1, none⟩ = some (.int .i64 (m')) := by subst hW_; simp
    have bf1 : V.frozen? ⟨w3.heap.size, 1, none⟩ = false := by subst hW_; simp
    have b2 : V.cell? ⟨w3.heap.size, 2, none⟩ = some (.int .i64 (d)) := by subst hW_; simp
    have bf2 : V.frozen? ⟨w3.heap.size, 2, none⟩ = false := by subst hW_; simp
    have lwb := hbW.out.size
    have lab := hza
    have hb_ : Below w3.heap.size w3 V := by subst hW_; exact (Below.refl _ _).alloc (Nat.le_refl _) _
    have hzb : w3.heap.size < V.heap.size := by subst hW_; simp
    clear hW_
    replace a0 := (hb_.cell (p := ⟨w.heap.size, 0, none⟩) hza).trans a0
    replace af0 := (hb_.frozen (p := ⟨w.heap.size, 0, none⟩) hza).trans af0
    replace a1 := (hb_.cell (p := ⟨w.heap.size, 1, none⟩) hza).trans a1
    replace af1 := (hb_.frozen (p := ⟨w.heap.size, 1, none⟩) hza).trans af1
    replace a2 := (hb_.cell (p := ⟨w.heap.size, 2, none⟩) hza).trans a2
    replace af2 := (hb_.frozen (p := ⟨w.heap.size, 2, none⟩) hza).trans af2
    replace hza := Nat.lt_of_lt_of_le hza hb_.size
    replace hbW := Lib.hid (hbW.out.trans (hb_.mono hbW.out.size))
    clear hb_
    go_wp2_with (first | (go_at_call 11; refine (weekday_any _ _).mono ?_; rintro e w' ⟨rfl, rfl⟩; try rw [hwd.out]) | go_step)
    refine (of_ok _ _ (by omega) (by omega)).mono ?_
    rintro e w4 ⟨rfl, hb4⟩
    rw [HP2.out]
    dsimp only [dv]
    replace a0 := (hb4.cell (p := ⟨w.heap.size, 0, none⟩) hza).trans a0
    replace af0 := (hb4.frozen (p := ⟨w.heap.size, 0, none⟩) hza).trans af0
    replace a1 := (hb4.cell (p := ⟨w.heap.size, 1, none⟩) hza).trans a1
    replace af1 := (hb4.frozen (p := ⟨w.heap.size, 1, none⟩) hza).trans af1
    replace a2 := (hb4.cell (p := ⟨w.heap.size, 2, none⟩) hza).trans a2
    replace af2 := (hb4.frozen (p := ⟨w.heap.size, 2, none⟩) hza).trans af2
    replace hza := Nat.lt_of_lt_of_le hza hb4.size
    replace b0 := (hb4.cell (p := ⟨w3.heap.size, 0, none⟩) hzb).trans b0
    replace bf0 := (hb4.frozen (p := ⟨w3.heap.size, 0, none⟩) hzb).trans bf0
    replace b1 := (hb4.cell (p := ⟨w3.heap.size, 1, none⟩) hzb).trans b1
    replace bf1 := (hb4.frozen (p := ⟨w3.heap.size, 1, none⟩) hzb).trans bf1
    replace b2 := (hb4.cell (p := ⟨w3.heap.size, 2, none⟩) hzb).trans b2
    replace bf2 := (hb4.frozen (p := ⟨w3.heap.size, 2, none⟩) hzb).trans bf2
    replace hzb := Nat.lt_of_lt_of_le hzb hb4.size
    replace hbW := Lib.hid (hbW.out.trans (hb4.mono hbW.out.size))
    go_wp2_with (go_step)
    generalize hW_ : w4.alloc (.cells #[.int .i64 (y'), .int .i64 (m'), .int .i64 (d + 1)] 23) = X
    have c0 : X.cell? ⟨w4.heap.size, 0, none⟩ = some (.int .i64 (y')) := by subst hW_; simp
    have cf0 : X.frozen? ⟨w4.heap.size, 0, none⟩ = false := by subst hW_; simp
    have c1 : X.cell? ⟨w4.heap.size, 1, none⟩ = some (.int .i64 (m')) := by subst hW_; simp
    have cf1 : X.frozen? ⟨w4.heap.size, 1, none⟩ = false := by subst hW_; simp
    have c2 : X.cell? ⟨w4.heap.size, 2, none⟩ = some (.int .i64 (d + 1)) := by subst hW_; simp
    have cf2 : X.frozen? ⟨w4.heap.size, 2, none⟩ = false := by subst hW_; simp
    have lwc := hbW.out.size
    have lac := hza
    have lbc := hzb
    have hb_ : Below w4.heap.size w4 X := by subst hW_; exact (Below.refl _ _).alloc (Nat.le_refl _) _
    have hzc : w4.heap.size < X.heap.size := by subst hW_; simp
    clear hW_
    replace a0 := (hb_.cell (p := ⟨w.heap.size, 0, none⟩) hza).trans a0
    replace af0 := (hb_.frozen (p := ⟨w.heap.size, 0, none⟩) hza).trans af0
    replace a1 := (hb_.cell (p := ⟨w.heap.size, 1, none⟩) hza).trans a1
    replace af1 := (hb_.frozen (p := ⟨w.heap.size, 1, none⟩) hza).trans af1
    replace a2 := (hb_.cell (p := ⟨w.heap.size, 2, none⟩) hza).trans a2
    replace af2 := (hb_.frozen (p := ⟨w.heap.size, 2, none⟩) hza).trans af2
    replace hza := Nat.lt_of_lt_of_le hza hb_.size
    replace b0 := (hb_.cell (p := ⟨w3.heap.size, 0, none⟩) hzb).trans b0
    replace bf0 := (hb_.frozen (p := ⟨w3.heap.size, 0, none⟩) hzb).trans bf0
    replace b1 := (hb_.cell (p := ⟨w3.heap.size, 1, none⟩) hzb).trans b1
    replace bf1 := (hb_.frozen (p := ⟨w3.heap.size, 1, none⟩) hzb).trans bf1
    replace b2 := (hb_.cell (p := ⟨w3.heap.size, 2, none⟩) hzb).trans b2
    replace bf2 := (hb_.frozen (p := ⟨w3.heap.size, 2, none⟩) hzb).trans bf2
    replace hzb := Nat.lt_of_lt_of_le hzb hb_.size
    replace hbW := Lib.hid (hbW.out.trans (hb_.mono hbW.out.size))
    clear hb_
    refine (days_ok _ _ _ _ h2'.out).mono ?_
    rintro e w5 ⟨rfl, hb5⟩
    rw [HN2.out]
    replace a0 := (hb5.cell (p := ⟨w.heap.size, 0, none⟩) hza).trans a0
    replace af0 := (hb5.frozen (p := ⟨w.heap.size, 0, none⟩) hza).trans af0
    replace a1 := (hb5.cell (p := ⟨w.heap.size, 1, none⟩) hza).trans a1
    replace af1 := (hb5.frozen (p := ⟨w.heap.size, 1, none⟩) hza).trans af1
    replace a2 := (hb5.cell (p := ⟨w.heap.size, 2, none⟩) hza).trans a2
    replace af2 := (hb5.frozen (p := ⟨w.heap.size, 2, none⟩) hza).trans af2
    replace hza := Nat.lt_of_lt_of_le hza hb5.size
    replace b0 := (hb5.cell (p := ⟨w3.heap.size, 0, none⟩) hzb).trans b0
    replace bf0 := (hb5.frozen (p := ⟨w3.heap.size, 0, none⟩) hzb).trans bf0
    replace b1 := (hb5.cell (p := ⟨w3.heap.size, 1, none⟩) hzb).trans b1
    replace bf1 := (hb5.frozen (p := ⟨w3.heap.size, 1, none⟩) hzb).trans bf1
    replace b2 := (hb5.cell (p := ⟨w3.heap.size, 2, none⟩) hzb).trans b2
    replace bf2 := (hb5.frozen (p := ⟨w3.heap.size, 2, none⟩) hzb).trans bf2
    replace hzb := Nat.lt_of_lt_of_le hzb hb5.size
    replace c0 := (hb5.cell (p := ⟨w4.heap.size, 0, none⟩) hzc).trans c0
    replace cf0 := (hb5.frozen (p := ⟨w4.heap.size, 0, none⟩) hzc).trans cf0
    replace c1 := (hb5.cell (p := ⟨w4.heap.size, 1, none⟩) hzc).trans c1
    replace cf1 := (hb5.frozen (p := ⟨w4.heap.size, 1, none⟩) hzc).trans cf1
    replace c2 := (hb5.cell (p := ⟨w4.heap.size, 2, none⟩) hzc).trans c2
    replace cf2 := (hb5.frozen (p := ⟨w4.heap.size, 2, none⟩) hzc).trans cf2
    replace hzc := Nat.lt_of_lt_of_le hzc hb5.size
    replace hbW := Lib.hid (hbW.out.trans (hb5.mono hbW.out.size))
    go_wp2_with (go_step)
    go_ret
    exact ⟨ret_bool (by simp), hbW.out⟩
  · go_enter Try.func7, Try.ntmps7
    go_wp2_with (go_step)
    generalize hW_ : w.alloc (.cells #[.int .i64 (y'), .int .i64 (m), .int .i64 (d)] 23) = W
    have a0 : W.cell? ⟨w.heap.size, 0, none⟩ = some (.int .i64 (y')) := by subst hW_; simp
    have af0 : W.frozen? ⟨w.heap.size, 0, none⟩ = false := by subst hW_; simp
    have a1 : W.cell? ⟨w.heap.size, 1, none⟩ = some (.int .i64 (m)) := by subst hW_; simp
    have af1 : W.frozen? ⟨w.heap.size, 1, none⟩ = false := by subst hW_; simp
    have a2 : W.cell? ⟨w.heap.size, 2, none⟩ = some (.int .i64 (d)) := by subst hW_; simp
    have af2 : W.frozen? ⟨w.heap.size, 2, none⟩ = false := by subst hW_; simp
    have lwa := hbW.out.size
    have hb_ : Below w.heap.size w W := by subst hW_; exact (Below.refl _ _).alloc (Nat.le_refl _) _
    have hza : w.heap.size < W.heap.size := by subst hW_; simp
    clear hW_
    replace hbW := Lib.hid (hbW.out.trans (hb_.mono hbW.out.size))
    clear hb_
    refine (days_ok _ _ _ _ h'.out).mono ?_
    rintro e w1 ⟨rfl, hb1⟩
    try rw [HN.out]
    replace a0 := (hb1.cell (p := ⟨w.heap.size, 0, none⟩) hza).trans a0
    replace af0 := (hb1.frozen (p := ⟨w.heap.size, 0, none⟩) hza).trans af0
    replace a1 := (hb1.cell (p := ⟨w.heap.size, 1, none⟩) hza).trans a1
    replace af1 := (hb1.frozen (p := ⟨w.heap.size, 1, none⟩) hza).trans af1
    replace a2 := (hb1.cell (p := ⟨w.heap.size, 2, none⟩) hza).trans a2
    replace af2 := (hb1.frozen (p := ⟨w.heap.size, 2, none⟩) hza).trans af2
    replace hza := Nat.lt_of_lt_of_le hza hb1.size
    replace hbW := Lib.hid (hbW.out.trans (hb1.mono hbW.out.size))
    go_wp2_with (go_step)
    refine (civilBegun_any _).mono ?_
    rintro e w2 ⟨rfl, hb2⟩
    replace a0 := (hb2.cell (p := ⟨w.heap.size, 0, none⟩) hza).trans a0
    replace af0 := (hb2.frozen (p := ⟨w.heap.size, 0, none⟩) hza).trans af0
    replace a1 := (hb2.cell (p := ⟨w.heap.size, 1, none⟩) hza).trans a1
    replace af1 := (hb2.frozen (p := ⟨w.heap.size, 1, none⟩) hza).trans af1
    replace a2 := (hb2.cell (p := ⟨w.heap.size, 2, none⟩) hza).trans a2
    replace af2 := (hb2.frozen (p := ⟨w.heap.size, 2, none⟩) hza).trans af2
    replace hza := Nat.lt_of_lt_of_le hza hb2.size
    replace hbW := Lib.hid (hbW.out.trans (hb2.mono hbW.out.size))
    go_wp2_with (go_step)
    refine (of_ok _ _ (by omega) (by omega)).mono ?_
    rintro e w3 ⟨rfl, hb3⟩
    rw [HP.out]
    dsimp only [dv]
    replace a0 := (hb3.cell (p := ⟨w.heap.size, 0, none⟩) hza).trans a0
    replace af0 := (hb3.frozen (p := ⟨w.heap.size, 0, none⟩) hza).trans af0
    replace a1 := (hb3.cell (p := ⟨w.heap.size, 1, none⟩) hza).trans a1
    replace af1 := (hb3.frozen (p := ⟨w.heap.size, 1, none⟩) hza).trans af1
    replace a2 := (hb3.cell (p := ⟨w.heap.size, 2, none⟩) hza).trans a2
    replace af2 := (hb3.frozen (p := ⟨w.heap.size, 2, none⟩) hza).trans af2
    replace hza := Nat.lt_of_lt_of_le hza hb3.size
    replace hbW := Lib.hid (hbW.out.trans (hb3.mono hbW.out.size))
    go_wp2_with (go_step)
    generalize hW_ : w3.alloc (.cells #[.int .i64 (y'), .int .i64 (m), .int .i64 (d)] 23) = V
    have b0 : V.cell? ⟨w3.heap.size, 0, none⟩ = some (.int .i64 (y')) := by subst hW_; simp
    have bf0 : V.frozen? ⟨w3.heap.size, 0, none⟩ = false := by subst hW_; simp
    have b1 : V.cell? ⟨w3.heap.size, 1, none⟩ = some (.int .i64 (m)) := by subst hW_; simp
    have bf1 : V.frozen? ⟨w3.heap.size, 1, none⟩ = false := by subst hW_; simp
    have b2 : V.cell? ⟨w3.heap.size, 2, none⟩ = some (.int .i64 (d)) := by subst hW_; simp
    have bf2 : V.frozen? ⟨w3.heap.size, 2, none⟩ = false := by subst hW_; simp
    have lwb := hbW.out.size
    have lab := hza
    have hb_ : Below w3.heap.size w3 V := by subst hW_; exact (Below.refl _ _).alloc (Nat.le_refl _) _
    have hzb : w3.heap.size < V.heap.size := by subst hW_; simp
    clear hW_
    replace a0 := (hb_.cell (p := ⟨w.heap.size, 0, none⟩) hza).trans a0
    replace af0 := (hb_.frozen (p := ⟨w.heap.size, 0, none⟩) hza).trans af0
    replace a1 := (hb_.cell (p := ⟨w.heap.size, 1, none⟩) hza).trans a1
    replace af1 := (hb_.frozen (p := ⟨w.heap.size, 1, none⟩) hza).trans af1
    replace a2 := (hb_.cell (p := ⟨w.heap.size, 2, none⟩) hza).trans a2
    replace af2 := (hb_.frozen (p := ⟨w.heap.size, 2, none⟩) hza).trans af2
    replace hza := Nat.lt_of_lt_of_le hza hb_.size
    replace hbW := Lib.hid (hbW.out.trans (hb_.mono hbW.out.size))
    clear hb_
    go_wp2_with (first | (go_at_call 11; refine (weekday_any _ _).mono ?_; rintro e w' ⟨rfl, rfl⟩; try rw [hwd.out]) | go_step)
    refine (of_ok _ _ (by omega) (by omega)).mono ?_
    rintro e w4 ⟨rfl, hb4⟩
    rw [HP2.out]
    dsimp only [dv]
    replace a0 := (hb4.cell (p := ⟨w.heap.size, 0, none⟩) hza).trans a0
    replace af0 := (hb4.frozen (p := ⟨w.heap.size, 0, none⟩) hza).trans af0
    replace a1 := (hb4.cell (p := ⟨w.heap.size, 1, none⟩) hza).trans a1
    replace af1 := (hb4.frozen (p := ⟨w.heap.size, 1, none⟩) hza).trans af1
    replace a2 := (hb4.cell (p := ⟨w.heap.size, 2, none⟩) hza).trans a2
    replace af2 := (hb4.frozen (p := ⟨w.heap.size, 2, none⟩) hza).trans af2
    replace hza := Nat.lt_of_lt_of_le hza hb4.size
    replace b0 := (hb4.cell (p := ⟨w3.heap.size, 0, none⟩) hzb).trans b0
    replace bf0 := (hb4.frozen (p := ⟨w3.heap.size, 0, none⟩) hzb).trans bf0
    replace b1 := (hb4.cell (p := ⟨w3.heap.size, 1, none⟩) hzb).trans b1
    replace bf1 := (hb4.frozen (p := ⟨w3.heap.size, 1, none⟩) hzb).trans bf1
    replace b2 := (hb4.cell (p := ⟨w3.heap.size, 2, none⟩) hzb).trans b2
    replace bf2 := (hb4.frozen (p := ⟨w3.heap.size, 2, none⟩) hzb).trans bf2
    replace hzb := Nat.lt_of_lt_of_le hzb hb4.size
    replace hbW := Lib.hid (hbW.out.trans (hb4.mono hbW.out.size))
    go_wp2_with (go_step)
    generalize hW_ : w4.alloc (.cells #[.int .i64 (y'), .int .i64 (m + 1), .int .i64 (1)] 23) = X
    have c0 : X.cell? ⟨w4.heap.size, 0, none⟩ = some (.int .i64 (y')) := by subst hW_; simp
    have cf0 : X.frozen? ⟨w4.heap.size, 0, none⟩ = false := by subst hW_; simp
    have c1 : X.cell? ⟨w4.heap.size, 1, none⟩ = some (.int .i64 (m + 1)) := by subst hW_; simp
    have cf1 : X.frozen? ⟨w4.heap.size, 1, none⟩ = false := by subst hW_; simp
    have c2 : X.cell? ⟨w4.heap.size, 2, none⟩ = some (.int .i64 (1)) := by subst hW_; simp
    have cf2 : X.frozen? ⟨w4.heap.size, 2, none⟩ = false := by subst hW_; simp
    have lwc := hbW.out.size
    have lac := hza
    have lbc := hzb
    have hb_ : Below w4.heap.size w4 X := by subst hW_; exact (Below.refl _ _).alloc (Nat.le_refl _) _
    have hzc : w4.heap.size < X.heap.size := by subst hW_; simp
    clear hW_
    replace a0 := (hb_.cell (p := ⟨w.heap.size, 0, none⟩) hza).trans a0
    replace af0 := (hb_.frozen (p := ⟨w.heap.size, 0, none⟩) hza).trans af0
    replace a1 := (hb_.cell (p := ⟨w.heap.size, 1, none⟩) hza).trans a1
    replace af1 := (hb_.frozen (p := ⟨w.heap.size, 1, none⟩) hza).trans af1
    replace a2 := (hb_.cell (p := ⟨w.heap.size, 2, none⟩) hza).trans a2
    replace af2 := (hb_.frozen (p := ⟨w.heap.size, 2, none⟩) hza).trans af2
    replace hza := Nat.lt_of_lt_of_le hza hb_.size
    replace b0 := (hb_.cell (p := ⟨w3.heap.size, 0, none⟩) hzb).trans b0
    replace bf0 := (hb_.frozen (p := ⟨w3.heap.size, 0, none⟩) hzb).trans bf0
    replace b1 := (hb_.cell (p := ⟨w3.heap.size, 1, none⟩) hzb).trans b1
    replace bf1 := (hb_.frozen (p := ⟨w3.heap.size, 1, none⟩) hzb).trans bf1
    replace b2 := (hb_.cell (p := ⟨w3.heap.size, 2, none⟩) hzb).trans b2
    replace bf2 := (hb_.frozen (p := ⟨w3.heap.size, 2, none⟩) hzb).trans bf2
    replace hzb := Nat.lt_of_lt_of_le hzb hb_.size
    replace hbW := Lib.hid (hbW.out.trans (hb_.mono hbW.out.size))
    clear hb_
    refine (days_ok _ _ _ _ h2'.out).mono ?_
    rintro e w5 ⟨rfl, hb5⟩
    rw [HN2.out]
    replace a0 := (hb5.cell (p := ⟨w.heap.size, 0, none⟩) hza).trans a0
    replace af0 := (hb5.frozen (p := ⟨w.heap.size, 0, none⟩) hza).trans af0
    replace a1 := (hb5.cell (p := ⟨w.heap.size, 1, none⟩) hza).trans a1
    replace af1 := (hb5.frozen (p := ⟨w.heap.size, 1, none⟩) hza).trans af1
    replace a2 := (hb5.cell (p := ⟨w.heap.size, 2, none⟩) hza).trans a2
    replace af2 := (hb5.frozen (p := ⟨w.heap.size, 2, none⟩) hza).trans af2
    replace hza := Nat.lt_of_lt_of_le hza hb5.size
    replace b0 := (hb5.cell (p := ⟨w3.heap.size, 0, none⟩) hzb).trans b0
    replace bf0 := (hb5.frozen (p := ⟨w3.heap.size, 0, none⟩) hzb).trans bf0
    replace b1 := (hb5.cell (p := ⟨w3.heap.size, 1, none⟩) hzb).trans b1
    replace bf1 := (hb5.frozen (p := ⟨w3.heap.size, 1, none⟩) hzb).trans bf1
    replace b2 := (hb5.cell (p := ⟨w3.heap.size, 2, none⟩) hzb).trans b2
    replace bf2 := (hb5.frozen (p := ⟨w3.heap.size, 2, none⟩) hzb).trans bf2
    replace hzb := Nat.lt_of_lt_of_le hzb hb5.size
    replace c0 := (hb5.cell (p := ⟨w4.heap.size, 0, none⟩) hzc).trans c0
    replace cf0 := (hb5.frozen (p := ⟨w4.heap.size, 0, none⟩) hzc).trans cf0
    replace c1 := (hb5.cell (p := ⟨w4.heap.size, 1, none⟩) hzc).trans c1
    replace cf1 := (hb5.frozen (p := ⟨w4.heap.size, 1, none⟩) hzc).trans cf1
    replace c2 := (hb5.cell (p := ⟨w4.heap.size, 2, none⟩) hzc).trans c2
    replace cf2 := (hb5.frozen (p := ⟨w4.heap.size, 2, none⟩) hzc).trans cf2
    replace hzc := Nat.lt_of_lt_of_le hzc hb5.size
    replace hbW := Lib.hid (hbW.out.trans (hb5.mono hbW.out.size))
    go_wp2_with (go_step)
    go_ret
    exact ⟨ret_bool (by simp), hbW.out⟩
  · go_enter Try.func7, Try.ntmps7
    go_wp2_with (go_step)
    generalize hW_ : w.alloc (.cells #[.int .i64 (y), .int .i64 (12), .int .i64 (31)] 23) = W
    have a0 : W.cell? ⟨w.heap.size, 0, none⟩ = some (.int .i64 (y)) := by subst hW_; simp
    have af0 : W.frozen? ⟨w.heap.size, 0, none⟩ = false := by subst hW_; simp
    have a1 : W.cell? ⟨w.heap.size, 1, none⟩ = some (.int .i64 (12)) := by subst hW_; simp
    have af1 : W.frozen? ⟨w.heap.size, 1, none⟩ = false := by subst hW_; simp
    have a2 : W.cell? ⟨w.heap.size, 2, none⟩ = some (.int .i64 (31)) := by subst hW_; simp
    have af2 : W.frozen? ⟨w.heap.size, 2, none⟩ = false := by subst hW_; simp
    have lwa := hbW.out.size
    have hb_ : Below w.heap.size w W := by subst hW_; exact (Below.refl _ _).alloc (Nat.le_refl _) _
    have hza : w.heap.size < W.heap.size := by subst hW_; simp
    clear hW_
    replace hbW := Lib.hid (hbW.out.trans (hb_.mono hbW.out.size))
    clear hb_
    refine (days_ok _ _ _ _ h'.out).mono ?_
    rintro e w1 ⟨rfl, hb1⟩
    try rw [HN.out]
    replace a0 := (hb1.cell (p := ⟨w.heap.size, 0, none⟩) hza).trans a0
    replace af0 := (hb1.frozen (p := ⟨w.heap.size, 0, none⟩) hza).trans af0
    replace a1 := (hb1.cell (p := ⟨w.heap.size, 1, none⟩) hza).trans a1
    replace af1 := (hb1.frozen (p := ⟨w.heap.size, 1, none⟩) hza).trans af1
    replace a2 := (hb1.cell (p := ⟨w.heap.size, 2, none⟩) hza).trans a2
    replace af2 := (hb1.frozen (p := ⟨w.heap.size, 2, none⟩) hza).trans af2
    replace hza := Nat.lt_of_lt_of_le hza hb1.size
    replace hbW := Lib.hid (hbW.out.trans (hb1.mono hbW.out.size))
    go_wp2_with (go_step)
    refine (civilBegun_any _).mono ?_
    rintro e w2 ⟨rfl, hb2⟩
    replace a0 := (hb2.cell (p := ⟨w.heap.size, 0, none⟩) hza).trans a0
    replace af0 := (hb2.frozen (p := ⟨w.heap.size, 0, none⟩) hza).trans af0
    replace a1 := (hb2.cell (p := ⟨w.heap.size, 1, none⟩) hza).trans a1
    replace af1 := (hb2.frozen (p := ⟨w.heap.size, 1, none⟩) hza).trans af1
    replace a2 := (hb2.cell (p := ⟨w.heap.size, 2, none⟩) hza).trans a2
    replace af2 := (hb2.frozen (p := ⟨w.heap.size, 2, none⟩) hza).trans af2
    replace hza := Nat.lt_of_lt_of_le hza hb2.size
    replace hbW := Lib.hid (hbW.out.trans (hb2.mono hbW.out.size))
    go_wp2_with (go_step)
    refine (of_ok _ _ (by omega) (by omega)).mono ?_
    rintro e w3 ⟨rfl, hb3⟩
    rw [HP.out]
    dsimp only [dv]
    replace a0 := (hb3.cell (p := ⟨w.heap.size, 0, none⟩) hza).trans a0
    replace af0 := (hb3.frozen (p := ⟨w.heap.size, 0, none⟩) hza).trans af0
    replace a1 := (hb3.cell (p := ⟨w.heap.size, 1, none⟩) hza).trans a1
    replace af1 := (hb3.frozen (p := ⟨w.heap.size, 1, none⟩) hza).trans af1
    replace a2 := (hb3.cell (p := ⟨w.heap.size, 2, none⟩) hza).trans a2
    replace af2 := (hb3.frozen (p := ⟨w.heap.size, 2, none⟩) hza).trans af2
    replace hza := Nat.lt_of_lt_of_le hza hb3.size
    replace hbW := Lib.hid (hbW.out.trans (hb3.mono hbW.out.size))
    go_wp2_with (go_step)
    generalize hW_ : w3.alloc (.cells #[.int .i64 (y), .int .i64 (12), .int .i64 (31)] 23) = V
    have b0 : V.cell? ⟨w3.heap.size, 0, none⟩ = some (.int .i64 (y)) := by subst hW_; simp
    have bf0 : V.frozen? ⟨w3.heap.size, 0, none⟩ = false := by subst hW_; simp
    have b1 : V.cell? ⟨w3.heap.size, 1, none⟩ = some (.int .i64 (12)) := by subst hW_; simp
    have bf1 : V.frozen? ⟨w3.heap.size, 1, none⟩ = false := by subst hW_; simp
    have b2 : V.cell? ⟨w3.heap.size, 2, none⟩ = some (.int .i64 (31)) := by subst hW_; simp
    have bf2 : V.frozen? ⟨w3.heap.size, 2, none⟩ = false := by subst hW_; simp
    have lwb := hbW.out.size
    have lab := hza
    have hb_ : Below w3.heap.size w3 V := by subst hW_; exact (Below.refl _ _).alloc (Nat.le_refl _) _
    have hzb : w3.heap.size < V.heap.size := by subst hW_; simp
    clear hW_
    replace a0 := (hb_.cell (p := ⟨w.heap.size, 0, none⟩) hza).trans a0
    replace af0 := (hb_.frozen (p := ⟨w.heap.size, 0, none⟩) hza).trans af0
    replace a1 := (hb_.cell (p := ⟨w.heap.size, 1, none⟩) hza).trans a1
    replace af1 := (hb_.frozen (p := ⟨w.heap.size, 1, none⟩) hza).trans af1
    replace a2 := (hb_.cell (p := ⟨w.heap.size, 2, none⟩) hza).trans a2
    replace af2 := (hb_.frozen (p := ⟨w.heap.size, 2, none⟩) hza).trans af2
    replace hza := Nat.lt_of_lt_of_le hza hb_.size
    replace hbW := Lib.hid (hbW.out.trans (hb_.mono hbW.out.size))
    clear hb_
    go_wp2_with (first | (go_at_call 11; refine (weekday_any _ _).mono ?_; rintro e w' ⟨rfl, rfl⟩; try rw [hwd.out]) | go_step)
    refine (of_ok _ _ (by omega) (by omega)).mono ?_
    rintro e w4 ⟨rfl, hb4⟩
    rw [HP2.out]
    dsimp only [dv]
    replace a0 := (hb4.cell (p := ⟨w.heap.size, 0, none⟩) hza).trans a0
    replace af0 := (hb4.frozen (p := ⟨w.heap.size, 0, none⟩) hza).trans af0
    replace a1 := (hb4.cell (p := ⟨w.heap.size, 1, none⟩) hza).trans a1
    replace af1 := (hb4.frozen (p := ⟨w.heap.size, 1, none⟩) hza).trans af1
    replace a2 := (hb4.cell (p := ⟨w.heap.size, 2, none⟩) hza).trans a2
    replace af2 := (hb4.frozen (p := ⟨w.heap.size, 2, none⟩) hza).trans af2
    replace hza := Nat.lt_of_lt_of_le hza hb4.size
    replace b0 := (hb4.cell (p := ⟨w3.heap.size, 0, none⟩) hzb).trans b0
    replace bf0 := (hb4.frozen (p := ⟨w3.heap.size, 0, none⟩) hzb).trans bf0
    replace b1 := (hb4.cell (p := ⟨w3.heap.size, 1, none⟩) hzb).trans b1
    replace bf1 := (hb4.frozen (p := ⟨w3.heap.size, 1, none⟩) hzb).trans bf1
    replace b2 := (hb4.cell (p := ⟨w3.heap.size, 2, none⟩) hzb).trans b2
    replace bf2 := (hb4.frozen (p := ⟨w3.heap.size, 2, none⟩) hzb).trans bf2
    replace hzb := Nat.lt_of_lt_of_le hzb hb4.size
    replace hbW := Lib.hid (hbW.out.trans (hb4.mono hbW.out.size))
    go_wp2_with (go_step)
    generalize hW_ : w4.alloc (.cells #[.int .i64 (y + 1), .int .i64 (1), .int .i64 (1)] 23) = X
    have c0 : X.cell? ⟨w4.heap.size, 0, none⟩ = some (.int .i64 (y + 1)) := by subst hW_; simp
    have cf0 : X.frozen? ⟨w4.heap.size, 0, none⟩ = false := by subst hW_; simp
    have c1 : X.cell? ⟨w4.heap.size, 1, none⟩ = some (.int .i64 (1)) := by subst hW_; simp
    have cf1 : X.frozen? ⟨w4.heap.size, 1, none⟩ = false := by subst hW_; simp
    have c2 : X.cell? ⟨w4.heap.size, 2, none⟩ = some (.int .i64 (1)) := by subst hW_; simp
    have cf2 : X.frozen? ⟨w4.heap.size, 2, none⟩ = false := by subst hW_; simp
    have lwc := hbW.out.size
    have lac := hza
    have lbc := hzb
    have hb_ : Below w4.heap.size w4 X := by subst hW_; exact (Below.refl _ _).alloc (Nat.le_refl _) _
    have hzc : w4.heap.size < X.heap.size := by subst hW_; simp
    clear hW_
    replace a0 := (hb_.cell (p := ⟨w.heap.size, 0, none⟩) hza).trans a0
    replace af0 := (hb_.frozen (p := ⟨w.heap.size, 0, none⟩) hza).trans af0
    replace a1 := (hb_.cell (p := ⟨w.heap.size, 1, none⟩) hza).trans a1
    replace af1 := (hb_.frozen (p := ⟨w.heap.size, 1, none⟩) hza).trans af1
    replace a2 := (hb_.cell (p := ⟨w.heap.size, 2, none⟩) hza).trans a2
    replace af2 := (hb_.frozen (p := ⟨w.heap.size, 2, none⟩) hza).trans af2
    replace hza := Nat.lt_of_lt_of_le hza hb_.size
    replace b0 := (hb_.cell (p := ⟨w3.heap.size, 0, none⟩) hzb).trans b0
    replace bf0 := (hb_.frozen (p := ⟨w3.heap.size, 0, none⟩) hzb).trans bf0
    replace b1 := (hb_.cell (p := ⟨w3.heap.size, 1, none⟩) hzb).trans b1
    replace bf1 := (hb_.frozen (p := ⟨w3.heap.size, 1, none⟩) hzb).trans bf1
    replace b2 := (hb_.cell (p := ⟨w3.heap.size, 2, none⟩) hzb).trans b2
    replace bf2 := (hb_.frozen (p := ⟨w3.heap.size, 2, none⟩) hzb).trans bf2
    replace hzb := Nat.lt_of_lt_of_le hzb hb_.size
    replace hbW := Lib.hid (hbW.out.trans (hb_.mono hbW.out.size))
    clear hb_
    refine (days_ok _ _ _ _ h2'.out).mono ?_
    rintro e w5 ⟨rfl, hb5⟩
    rw [HN2.out]
    replace a0 := (hb5.cell (p := ⟨w.heap.size, 0, none⟩) hza).trans a0
    replace af0 := (hb5.frozen (p := ⟨w.heap.size, 0, none⟩) hza).trans af0
    replace a1 := (hb5.cell (p := ⟨w.heap.size, 1, none⟩) hza).trans a1
    replace af1 := (hb5.frozen (p := ⟨w.heap.size, 1, none⟩) hza).trans af1
    replace a2 := (hb5.cell (p := ⟨w.heap.size, 2, none⟩) hza).trans a2
    replace af2 := (hb5.frozen (p := ⟨w.heap.size, 2, none⟩) hza).trans af2
    replace hza := Nat.lt_of_lt_of_le hza hb5.size
    replace b0 := (hb5.cell (p := ⟨w3.heap.size, 0, none⟩) hzb).trans b0
    replace bf0 := (hb5.frozen (p := ⟨w3.heap.size, 0, none⟩) hzb).trans bf0
    replace b1 := (hb5.cell (p := ⟨w3.heap.size, 1, none⟩) hzb).trans b1
    replace bf1 := (hb5.frozen (p := ⟨w3.heap.size, 1, none⟩) hzb).trans bf1
    replace b2 := (hb5.cell (p := ⟨w3.heap.size, 2, none⟩) hzb).trans b2
    replace bf2 := (hb5.frozen (p := ⟨w3.heap.size, 2, none⟩) hzb).trans bf2
    replace hzb := Nat.lt_of_lt_of_le hzb hb5.size
    replace c0 := (hb5.cell (p := ⟨w4.heap.size, 0, none⟩) hzc).trans c0
    replace cf0 := (hb5.frozen (p := ⟨w4.heap.size, 0, none⟩) hzc).trans cf0
    replace c1 := (hb5.cell (p := ⟨w4.heap.size, 1, none⟩) hzc).trans c1
    replace cf1 := (hb5.frozen (p := ⟨w4.heap.size, 1, none⟩) hzc).trans cf1
    replace c2 := (hb5.cell (p := ⟨w4.heap.size, 2, none⟩) hzc).trans c2
    replace cf2 := (hb5.frozen (p := ⟨w4.heap.size, 2, none⟩) hzc).trans cf2
    replace hzc := Nat.lt_of_lt_of_le hzc hb5.size
    replace hbW := Lib.hid (hbW.out.trans (hb5.mono hbW.out.size))
    go_wp2_with (go_step)
    go_ret
    exact ⟨ret_bool (by simp), hbW.out⟩

theorem next_plain {y m d : Int} (h : isDate y m d = true) : y = 9999 ∧ m = 12 ∧ d = 31 ∨ ∃ y' m' d', isDate y' m' d' = true ∧ num y' m' d' = num y m d + 1 ∧
    (y' = y ∧ m' = m ∧ d' = d + 1 ∨ y' = y ∧ m' = m + 1 ∧ d' = 1 ∧ 28 ≤ d ∨ y' = y + 1 ∧ m' = 1 ∧ d' = 1 ∧ m = 12 ∧ d = 31) := by
  have hi := isDate_iff.1 h
  have hl := mlen_bd y m
  by_cases h1 : d < mlen y m
  · refine .inr ⟨y, m, d + 1, isDate_iff.2 (by omega), by unfold num; omega, .inl ⟨rfl, rfl, rfl⟩⟩
  · by_cases h2 : m < 12
    · have hs := cum_succ (y := y) (m := m) (by omega) (by omega)
      have hl2 := mlen_bd y (m + 1)
      exact .inr ⟨y, m + 1, 1, isDate_iff.2 (by omega), by unfold num; omega, .inr (.inl ⟨rfl, rfl, rfl, by omega⟩)⟩
    · obtain rfl : m = 12 := by omega
      have h31 : mlen y 12 = 31 := by unfold mlen; simp
      by_cases h3 : y = 9999
      · exact .inl ⟨h3, rfl, by omega⟩
      · have hs := bef_succ y
        have hc : cum y 12 = 334 + lp y := by simp [cum]; omega
        have hl2 := mlen_bd (y + 1) 1
        refine .inr ⟨y + 1, 1, 1, isDate_iff.2 (by omega), ?_, .inr (.inr ⟨rfl, rfl, rfl, rfl, by omega⟩)⟩
        unfold num; rw [cum_1, hc]; omega

theorem walk (y m d : Int) (w : World) :
    Calls Try.prog 7 #[.agg #[.int .i64 y, .int .i64 m, .int .i64 d]] w fun e w' => e = .returned (.bool true) ∧ Below w.heap.size w w' := by
  cases h : isDate y m d
  · exact walk_no y m d w h
  · rcases next_plain h with ⟨rfl, rfl, rfl⟩ | ⟨y', m', d', h2, hn, hc⟩
    · exact walk_last w
    · exact walk_yes y m d y' m' d' w h h2 hn hc

set_option maxRecDepth 100000 in
theorem lifted (os : Os) (started : os.Started) (H : Type) (enc : TypeId × Value → H) :
    ReturnsInHanded {} Try.checked os 7 .any (Rows.civilNextSpec.pre6 enc Try.prog Try.f7 Rows.civilNextRow.domain false) (Rows.civilNextSpec.post enc Try.prog Try.f7 false true false false) := by
  refine returnsInHanded_of_change (C := Try.checked) own started (by kernel_rfl) Try.func7
    (ChangeSpec.witness6 (enc := enc) (C := Try.checked) false ⟨#[], #[.agg #[.int .i64 0, .int .i64 0, .int .i64 0]], []⟩ 8 (by kernel_rfl) (by kernel_rfl) (by kernel_rfl) (by kernel_rfl)) ?_
  intro W base args ds gs before hval0 hW0 _ _
  have hval : ∀ (j : Nat) t v, Try.f7.params[j]? = some t → args[j]? = some v → Value.okWide Try.prog W .any base t v := hval0
  have hW := hW0
  obtain ⟨p, q, hA0, _, _, _, _⟩ := hW
  have hA : DataW.TrodAll enc Try.prog W 0 (fun _ => true) true Try.f7.params.toList args.toList ds p := hA0
  have hfin : ∀ W', Below W.heap.size W W' → (∃ d, ds = d) → Rows.civilNextSpec.fn H ds = { results := [.lit (.bool true)], args := ds } → Rows.civilNextSpec.post enc Try.prog Try.f7 false true false false W args (.bool true) W' :=
    fun W' hb _ hs => law_post laidOut (by kernel_rfl) rfl Try.underlying4 rfl hs hW0 hb
  rw [Try.params7] at hA hval
  obtain ⟨v0, vs0, d0, ds0, p0, q0, hargs, rfl, rfl, h0, r0⟩ := trodAll_cons hA
  obtain ⟨rfl, rfl, rfl⟩ := trodAll_nil r0
  obtain rfl : args = #[v0] := by cases args; simp_all
  obtain ⟨y, m, d, rfl, hy, hm, hd⟩ := open_date (hval 0 23 _ rfl rfl) h0
  refine (walk y m d W).mono fun e W' ⟨he, hb⟩ => ?_
  subst he
  exact ⟨_, rfl, hfin W' hb ⟨_, rfl⟩ rfl⟩

theorem proved : Rows.CivilNextSaid :=
  OpenClaim.holds_of_wide 7 Try.f7 rfl rfl rfl rfl rfl rfl rfl ⟨rfl, rfl, rfl, rfl, rfl⟩ rfl rfl rfl rfl rfl (by kernel_rfl) Try.func7 (by kernel_rfl)
    (of_decide_eq_true (by kernel_rfl)) (by unfold Func.isWrapper; first | (rw [if_pos (by decide +kernel)]; kernel_rfl) | (rw [if_neg (by decide +kernel)]; exact ⟨rfl, rfl⟩))
    (fun os started H enc _ => lifted os started H enc)

end Go.Proofs.Ytbbhpjnifeheiaa.civilNext
