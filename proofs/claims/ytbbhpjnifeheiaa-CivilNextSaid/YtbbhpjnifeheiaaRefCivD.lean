/-
  Contract of the reference's OnOf at forms that are right. Conditions: those that each theorem names.
-/
import Derived.Test.YtbbhpjnifeheiaaRefCivC
set_option linter.unusedVariables false
set_option linter.unusedSimpArgs false
namespace Go.Proofs.Ytbbhpjnifeheiaa
open Go.RowKit Go.Sort Civ

theorem onDay_1' (y m _wk n : Int) : onDay y m 1 0 n = num y m 1 - 1 + n := by rw [onDay_1 y m _wk n]; omega

set_option maxHeartbeats 1000000 in
theorem refOn_1 (y m n : Int) (w : World) (hy : 1 ≤ y ∧ y ≤ 9999) (hm : 1 ≤ m ∧ m ≤ 12) (hn : 1 ≤ n ∧ n ≤ mlen y m) :
    Calls Try.prog 20 #[.int .i64 y, .int .i64 m, .agg #[.int .i64 1, .int .i64 0, .int .i64 n]] w fun e w' => e = .returned (.tuple #[dv (onV y m 1 0 n).1, .int .i64 (onV y m 1 0 n).2]) ∧ Below w.heap.size w w' := by
  have hml := mlen_bd y m
  have hnb := num_bd (isDate_iff.2 ⟨hy.1, hy.2, hm.1, hm.2, by omega, by omega⟩ : isDate y m 1 = true)
  have hq : Hid (formE y m 1 0 n = 0) := Lib.hid (by unfold formE; rw [if_neg (by omega), if_neg (by omega), if_neg (by omega), if_neg (by omega)])
  go_enter Try.func20, Try.ntmps20
  go_wp2_with (first | (go_at_call 27; (first | (refine (between_t _ _ _ _ (by omega)).mono ?_) | (refine (between_f _ _ _ _ (by omega)).mono ?_)); rintro e w' ⟨rfl, rfl⟩) | (go_at_call 28; refine (monthLength_any _ _ _ (by omega)).mono ?_; rintro e w' ⟨rfl, rfl⟩))
  generalize hW : (w.alloc (.cells #[.int .i64 1, .int .i64 0, .int .i64 n] 38)).alloc (.cells #[.int .i64 0, .int .i64 0, .int .i64 0] 23) = W
  have c0 : W.cell? ⟨w.heap.size, 0, none⟩ = some (.int .i64 1) := by subst hW; simp
  have c1 : W.cell? ⟨w.heap.size, 1, none⟩ = some (.int .i64 0) := by subst hW; simp
  have c2 : W.cell? ⟨w.heap.size, 2, none⟩ = some (.int .i64 n) := by subst hW; simp
  have r0 : W.cell? ⟨w.heap.size + 1, 0, none⟩ = some (.int .i64 0) := by subst hW; simp
  have r1 : W.cell? ⟨w.heap.size + 1, 1, none⟩ = some (.int .i64 0) := by subst hW; simp
  have r2 : W.cell? ⟨w.heap.size + 1, 2, none⟩ = some (.int .i64 0) := by subst hW; simp
  have g0 : W.frozen? ⟨w.heap.size + 1, 0, none⟩ = false := by subst hW; simp
  have g1 : W.frozen? ⟨w.heap.size + 1, 1, none⟩ = false := by subst hW; simp
  have g2 : W.frozen? ⟨w.heap.size + 1, 2, none⟩ = false := by subst hW; simp
  have hbW : Hid (Below w.heap.size w W) := Lib.hid (by subst hW; exact ((Below.refl _ _).alloc (Nat.le_refl _) _).alloc (by simp) _)
  have hzW : w.heap.size + 1 < W.heap.size := by subst hW; simp
  clear hW
  refine (daysOf_any _ _ _ _ (by omega) (by omega) (by omega) (by omega) (by omega) (by omega)).mono ?_
  rintro e w1 ⟨rfl, hb1⟩
  replace c0 := (hb1.cell (p := ⟨w.heap.size, 0, none⟩) (by simp; omega)).trans c0
  replace c1 := (hb1.cell (p := ⟨w.heap.size, 1, none⟩) (by simp; omega)).trans c1
  replace c2 := (hb1.cell (p := ⟨w.heap.size, 2, none⟩) (by simp; omega)).trans c2
  replace r0 := (hb1.cell (p := ⟨w.heap.size + 1, 0, none⟩) (by simp; omega)).trans r0
  replace r1 := (hb1.cell (p := ⟨w.heap.size + 1, 1, none⟩) (by simp; omega)).trans r1
  replace r2 := (hb1.cell (p := ⟨w.heap.size + 1, 2, none⟩) (by simp; omega)).trans r2
  replace g0 := (hb1.frozen (p := ⟨w.heap.size + 1, 0, none⟩) (by simp; omega)).trans g0
  replace g1 := (hb1.frozen (p := ⟨w.heap.size + 1, 1, none⟩) (by simp; omega)).trans g1
  replace g2 := (hb1.frozen (p := ⟨w.heap.size + 1, 2, none⟩) (by simp; omega)).trans g2
  replace hbW := Lib.hid (hbW.out.trans (hb1.mono (by omega)))
  replace hzW := Nat.lt_of_lt_of_le hzW hb1.size
  go_wp2_with fail
  have HC0 := Lib.hid c0
  have HC1 := Lib.hid c1
  go_loopg [9, 10] 1 (fun g a b wx => a = .int .i64 (num y m 1 - 1 + n) ∧ b = .int .i64 0 ∧ wx = w1 ∧ g = 1)
  case atStart => exact ⟨rfl, rfl, rfl, rfl⟩
  case round =>
    obtain ⟨rfl, rfl, rfl, rfl⟩ := hrel
    have k0 := cell_regrown c0
    have k1 := cell_regrown c1
    have k2 := cell_regrown c2
    go_wp2_with (go_step)
    refine wp_region_quiet_below (by kernel_rfl) (by kernel_rfl) ?_
    repeat (go_big_quiet_step (fail))
    refine wpQuiet_nil ?_
    intro _ hw'
    obtain ⟨⟨dq, osq⟩, hw''⟩ := hw'
    subst hw''
    have hb3 := below_regrown wr dq osq
    generalize grow (redrawn wr dq) osq = w3 at hb3 ⊢
    clear k0 k1 k2
    replace c0 := (hb3.cell (p := ⟨w.heap.size, 0, none⟩) (by simp; omega)).trans c0
    replace c1 := (hb3.cell (p := ⟨w.heap.size, 1, none⟩) (by simp; omega)).trans c1
    replace c2 := (hb3.cell (p := ⟨w.heap.size, 2, none⟩) (by simp; omega)).trans c2
    replace r0 := (hb3.cell (p := ⟨w.heap.size + 1, 0, none⟩) (by simp; omega)).trans r0
    replace r1 := (hb3.cell (p := ⟨w.heap.size + 1, 1, none⟩) (by simp; omega)).trans r1
    replace r2 := (hb3.cell (p := ⟨w.heap.size + 1, 2, none⟩) (by simp; omega)).trans r2
    replace g0 := (hb3.frozen (p := ⟨w.heap.size + 1, 0, none⟩) (by simp; omega)).trans g0
    replace g1 := (hb3.frozen (p := ⟨w.heap.size + 1, 1, none⟩) (by simp; omega)).trans g1
    replace g2 := (hb3.frozen (p := ⟨w.heap.size + 1, 2, none⟩) (by simp; omega)).trans g2
    replace hbW := Lib.hid (hbW.out.trans (hb3.mono (by omega)))
    replace hzW := Nat.lt_of_lt_of_le hzW hb3.size
    go_wp2_with (go_step)
    by_cases hr : -719162 ≤ (num y m 1 - 1 + n) ∧ (num y m 1 - 1 + n) ≤ 2932896
    · have hv : Hid (onV y m 1 0 n = (dateOf ((num y m 1 - 1 + n)), 0)) := Lib.hid (by unfold onV; rw [if_neg (by rw [hq.out]; simp)]; rw [onDay_1' y m 0 n, if_pos hr])
      obtain ⟨y', m', d', hp⟩ : ∃ y' m' d', dateOf ((num y m 1 - 1 + n)) = (y', m', d') := ⟨_, _, _, rfl⟩
      have HP := Lib.hid hp; clear hp
      go_wp2_with fail
      refine (firstDay_any _).mono ?_
      rintro e v1 ⟨rfl, hb5⟩
      replace c0 := (hb5.cell (p := ⟨w.heap.size, 0, none⟩) (by simp; omega)).trans c0
      replace c1 := (hb5.cell (p := ⟨w.heap.size, 1, none⟩) (by simp; omega)).trans c1
      replace c2 := (hb5.cell (p := ⟨w.heap.size, 2, none⟩) (by simp; omega)).trans c2
      replace r0 := (hb5.cell (p := ⟨w.heap.size + 1, 0, none⟩) (by simp; omega)).trans r0
      replace r1 := (hb5.cell (p := ⟨w.heap.size + 1, 1, none⟩) (by simp; omega)).trans r1
      replace r2 := (hb5.cell (p := ⟨w.heap.size + 1, 2, none⟩) (by simp; omega)).trans r2
      replace g0 := (hb5.frozen (p := ⟨w.heap.size + 1, 0, none⟩) (by simp; omega)).trans g0
      replace g1 := (hb5.frozen (p := ⟨w.heap.size + 1, 1, none⟩) (by simp; omega)).trans g1
      replace g2 := (hb5.frozen (p := ⟨w.heap.size + 1, 2, none⟩) (by simp; omega)).trans g2
      replace hbW := Lib.hid (hbW.out.trans (hb5.mono (by omega)))
      replace hzW := Nat.lt_of_lt_of_le hzW hb5.size
      go_wp2_with fail
      refine (lastDay_any _).mono ?_
      rintro e v2 ⟨rfl, hb6⟩
      replace c0 := (hb6.cell (p := ⟨w.heap.size, 0, none⟩) (by simp; omega)).trans c0
      replace c1 := (hb6.cell (p := ⟨w.heap.size, 1, none⟩) (by simp; omega)).trans c1
      replace c2 := (hb6.cell (p := ⟨w.heap.size, 2, none⟩) (by simp; omega)).trans c2
      replace r0 := (hb6.cell (p := ⟨w.heap.size + 1, 0, none⟩) (by simp; omega)).trans r0
      replace r1 := (hb6.cell (p := ⟨w.heap.size + 1, 1, none⟩) (by simp; omega)).trans r1
      replace r2 := (hb6.cell (p := ⟨w.heap.size + 1, 2, none⟩) (by simp; omega)).trans r2
      replace g0 := (hb6.frozen (p := ⟨w.heap.size + 1, 0, none⟩) (by simp; omega)).trans g0
      replace g1 := (hb6.frozen (p := ⟨w.heap.size + 1, 1, none⟩) (by simp; omega)).trans g1
      replace g2 := (hb6.frozen (p := ⟨w.heap.size + 1, 2, none⟩) (by simp; omega)).trans g2
      replace hbW := Lib.hid (hbW.out.trans (hb6.mono (by omega)))
      replace hzW := Nat.lt_of_lt_of_le hzW hb6.size
      go_wp2_with (go_at_call 27; refine (between_t _ _ _ _ (by omega)).mono ?_; rintro e w' ⟨rfl, rfl⟩)
      refine (refDateOf_any _ _ hr.1 hr.2).mono ?_
      rintro e v3 ⟨rfl, hb7⟩
      rw [HP.out]
      dsimp only [dv]
      replace c0 := (hb7.cell (p := ⟨w.heap.size, 0, none⟩) (by simp; omega)).trans c0
      replace c1 := (hb7.cell (p := ⟨w.heap.size, 1, none⟩) (by simp; omega)).trans c1
      replace c2 := (hb7.cell (p := ⟨w.heap.size, 2, none⟩) (by simp; omega)).trans c2
      replace r0 := (hb7.cell (p := ⟨w.heap.size + 1, 0, none⟩) (by simp; omega)).trans r0
      replace r1 := (hb7.cell (p := ⟨w.heap.size + 1, 1, none⟩) (by simp; omega)).trans r1
      replace r2 := (hb7.cell (p := ⟨w.heap.size + 1, 2, none⟩) (by simp; omega)).trans r2
      replace g0 := (hb7.frozen (p := ⟨w.heap.size + 1, 0, none⟩) (by simp; omega)).trans g0
      replace g1 := (hb7.frozen (p := ⟨w.heap.size + 1, 1, none⟩) (by simp; omega)).trans g1
      replace g2 := (hb7.frozen (p := ⟨w.heap.size + 1, 2, none⟩) (by simp; omega)).trans g2
      replace hbW := Lib.hid (hbW.out.trans (hb7.mono (by omega)))
      replace hzW := Nat.lt_of_lt_of_le hzW hb7.size
      go_wp2_with fail
      refine bodyPost_ret (v := .tuple #[.agg #[.int .i64 y', .int .i64 m', .int .i64 d'], .int .i64 0]) (by simp [results, Try.results20, go_sem, r0, r1, r2]) rfl ⟨by rw [hv.out, HP.out]; rfl, ?_⟩
      exact (((hbW.out.setCell (by simp) _).setCell (by simp) _).setCell (by simp) _)
    · have hv : Hid (onV y m 1 0 n = ((0, 0, 0), 3)) := Lib.hid (by unfold onV; rw [if_neg (by rw [hq.out]; simp)]; rw [onDay_1' y m 0 n, if_neg hr])
      go_wp2_with fail
      refine (firstDay_any _).mono ?_
      rintro e v1 ⟨rfl, hb5⟩
      replace c0 := (hb5.cell (p := ⟨w.heap.size, 0, none⟩) (by simp; omega)).trans c0
      replace c1 := (hb5.cell (p := ⟨w.heap.size, 1, none⟩) (by simp; omega)).trans c1
      replace c2 := (hb5.cell (p := ⟨w.heap.size, 2, none⟩) (by simp; omega)).trans c2
      replace r0 := (hb5.cell (p := ⟨w.heap.size + 1, 0, none⟩) (by simp; omega)).trans r0
      replace r1 := (hb5.cell (p := ⟨w.heap.size + 1, 1, none⟩) (by simp; omega)).trans r1
      replace r2 := (hb5.cell (p := ⟨w.heap.size + 1, 2, none⟩) (by simp; omega)).trans r2
      replace g0 := (hb5.frozen (p := ⟨w.heap.size + 1, 0, none⟩) (by simp; omega)).trans g0
      replace g1 := (hb5.frozen (p := ⟨w.heap.size + 1, 1, none⟩) (by simp; omega)).trans g1
      replace g2 := (hb5.frozen (p := ⟨w.heap.size + 1, 2, none⟩) (by simp; omega)).trans g2
      replace hbW := Lib.hid (hbW.out.trans (hb5.mono (by omega)))
      replace hzW := Nat.lt_of_lt_of_le hzW hb5.size
      go_wp2_with fail
      refine (lastDay_any _).mono ?_
      rintro e v2 ⟨rfl, hb6⟩
      replace c0 := (hb6.cell (p := ⟨w.heap.size, 0, none⟩) (by simp; omega)).trans c0
      replace c1 := (hb6.cell (p := ⟨w.heap.size, 1, none⟩) (by simp; omega)).trans c1
      replace c2 := (hb6.cell (p := ⟨w.heap.size, 2, none⟩) (by simp; omega)).trans c2
      replace r0 := (hb6.cell (p := ⟨w.heap.size + 1, 0, none⟩) (by simp; omega)).trans r0
      replace r1 := (hb6.cell (p := ⟨w.heap.size + 1, 1, none⟩) (by simp; omega)).trans r1
      replace r2 := (hb6.cell (p := ⟨w.heap.size + 1, 2, none⟩) (by simp; omega)).trans r2
      replace g0 := (hb6.frozen (p := ⟨w.heap.size + 1, 0, none⟩) (by simp; omega)).trans g0
      replace g1 := (hb6.frozen (p := ⟨w.heap.size + 1, 1, none⟩) (by simp; omega)).trans g1
      replace g2 := (hb6.frozen (p := ⟨w.heap.size + 1, 2, none⟩) (by simp; omega)).trans g2
      replace hbW := Lib.hid (hbW.out.trans (hb6.mono (by omega)))
      replace hzW := Nat.lt_of_lt_of_le hzW hb6.size
      have HR : Hid ((num y m 1 - 1 + n) < -719162 ∨ 2932896 < (num y m 1 - 1 + n)) := Lib.hid (by omega)
      clear hr
      go_wp2_with (go_at_call 27; refine (between_f _ _ _ _ HR.out).mono ?_; rintro e w' ⟨rfl, rfl⟩)
      refine bodyPost_ret (v := .tuple #[.agg #[.int .i64 0, .int .i64 0, .int .i64 0], .int .i64 3]) (by simp [results, Try.results20, go_sem, r0, r1, r2]) rfl ⟨by rw [hv.out]; rfl, ?_⟩
      exact (((hbW.out.setCell (by simp) _).setCell (by simp) _).setCell (by simp) _)

theorem onDay_3' (y m wk n : Int) : onDay y m 3 wk n = num y m 1 - 1 + n + (wk - wd (num y m 1 - 1 + n)) % 7 := by
  rw [onDay_3 y m wk n, show num y m 1 + n - 1 = num y m 1 - 1 + n by omega]; rfl
theorem onDay_4' (y m wk n : Int) : onDay y m 4 wk n = num y m 1 - 1 + n - (wd (num y m 1 - 1 + n) - wk) % 7 := by
  rw [onDay_4 y m wk n, show num y m 1 + n - 1 = num y m 1 - 1 + n by omega]; rfl
theorem onDay_2' (y m wk n : Int) : onDay y m 2 wk 0 = num y m 1 - 1 + mlen y m - (wd (num y m 1 - 1 + mlen y m) - wk) % 7 := by
  rw [onDay_2 y m wk n, show num y m 1 + mlen y m - 1 = num y m 1 - 1 + mlen y m by omega]; rfl

set_option maxHeartbeats 1000000 in
theorem refOn_3 (y m wk n : Int) (w : World) (hy : 1 ≤ y ∧ y ≤ 9999) (hm : 1 ≤ m ∧ m ≤ 12) (hw : 0 ≤ wk ∧ wk ≤ 6) (hn : 1 ≤ n ∧ n ≤ mlen y m) :
    Calls Try.prog 20 #[.int .i64 y, .int .i64 m, .agg #[.int .i64 3, .int .i64 wk, .int .i64 n]] w fun e w' => e = .returned (.tuple #[dv (onV y m 3 wk n).1, .int .i64 (onV y m 3 wk n).2]) ∧ Below w.heap.size w w' := by
  have hml := mlen_bd y m
  have hnb := num_bd (isDate_iff.2 ⟨hy.1, hy.2, hm.1, hm.2, by omega, by omega⟩ : isDate y m 1 = true)
  have hq : Hid (formE y m 3 wk n = 0) := Lib.hid (by unfold formE; rw [if_neg (by omega), if_neg (by omega), if_neg (by omega), if_neg (by omega)])
  go_enter Try.func20, Try.ntmps20
  go_wp2_with (first | (go_at_call 27; (first | (refine (between_t _ _ _ _ (by omega)).mono ?_) | (refine (between_f _ _ _ _ (by omega)).mono ?_)); rintro e w' ⟨rfl, rfl⟩) | (go_at_call 28; refine (monthLength_any _ _ _ (by omega)).mono ?_; rintro e w' ⟨rfl, rfl⟩))
  generalize hW : (w.alloc (.cells #[.int .i64 3, .int .i64 wk, .int .i64 n] 38)).alloc (.cells #[.int .i64 0, .int .i64 0, .int .i64 0] 23) = W
  have c0 : W.cell? ⟨w.heap.size, 0, none⟩ = some (.int .i64 3) := by subst hW; simp
  have c1 : W.cell? ⟨w.heap.size, 1, none⟩ = some (.int .i64 wk) := by subst hW; simp
  have c2 : W.cell? ⟨w.heap.size, 2, none⟩ = some (.int .i64 n) := by subst hW; simp
  have r0 : W.cell? ⟨w.heap.size + 1, 0, none⟩ = some (.int .i64 0) := by subst hW; simp
  have r1 : W.cell? ⟨w.heap.size + 1, 1, none⟩ = some (.int .i64 0) := by subst hW; simp
  have r2 : W.cell? ⟨w.heap.size + 1, 2, none⟩ = some (.int .i64 0) := by subst hW; simp
  have g0 : W.frozen? ⟨w.heap.size + 1, 0, none⟩ = false := by subst hW; simp
  have g1 : W.frozen? ⟨w.heap.size + 1, 1, none⟩ = false := by subst hW; simp
  have g2 : W.frozen? ⟨w.heap.size + 1, 2, none⟩ = false := by subst hW; simp
  have hbW : Hid (Below w.heap.size w W) := Lib.hid (by subst hW; exact ((Below.refl _ _).alloc (Nat.le_refl _) _).alloc (by simp) _)
  have hzW : w.heap.size + 1 < W.heap.size := by subst hW; simp
  clear hW
  refine (daysOf_any _ _ _ _ (by omega) (by omega) (by omega) (by omega) (by omega) (by omega)).mono ?_
  rintro e w1 ⟨rfl, hb1⟩
  replace c0 := (hb1.cell (p := ⟨w.heap.size, 0, none⟩) (by simp; omega)).trans c0
  replace c1 := (hb1.cell (p := ⟨w.heap.size, 1, none⟩) (by simp; omega)).trans c1
  replace c2 := (hb1.cell (p := ⟨w.heap.size, 2, none⟩) (by simp; omega)).trans c2
  replace r0 := (hb1.cell (p := ⟨w.heap.size + 1, 0, none⟩) (by simp; omega)).trans r0
  replace r1 := (hb1.cell (p := ⟨w.heap.size + 1, 1, none⟩) (by simp; omega)).trans r1
  replace r2 := (hb1.cell (p := ⟨w.heap.size + 1, 2, none⟩) (by simp; omega)).trans r2
  replace g0 := (hb1.frozen (p := ⟨w.heap.size + 1, 0, none⟩) (by simp; omega)).trans g0
  replace g1 := (hb1.frozen (p := ⟨w.heap.size + 1, 1, none⟩) (by simp; omega)).trans g1
  replace g2 := (hb1.frozen (p := ⟨w.heap.size + 1, 2, none⟩) (by simp; omega)).trans g2
  replace hbW := Lib.hid (hbW.out.trans (hb1.mono (by omega)))
  replace hzW := Nat.lt_of_lt_of_le hzW hb1.size
  go_wp2_with fail
  have hD : 0 ≤ (wk - wd (num y m 1 - 1 + n)) % 7 ∧ (wk - wd (num y m 1 - 1 + n)) % 7 ≤ 6 := by omega
  go_loopg [9, 10] 8 (fun g a b wx => ∃ j : Int, 0 ≤ j ∧ j ≤ (wk - wd (num y m 1 - 1 + n)) % 7 ∧ a = .int .i64 ((num y m 1 - 1 + n) + j) ∧ b = .int .i64 j ∧ Below w1.heap.size w1 wx ∧ g = 8 - j.toNat)
  case atStart => exact ⟨0, by omega, hD.1, by simp, rfl, Below.refl _ _, rfl⟩
  case round =>
    obtain ⟨j, hj0, hj1, rfl, rfl, hbx, hgk⟩ := hrel
    have HK := Lib.hid hgk; clear hgk
    replace c0 := (hbx.cell (p := ⟨w.heap.size, 0, none⟩) (by simp; omega)).trans c0
    replace c1 := (hbx.cell (p := ⟨w.heap.size, 1, none⟩) (by simp; omega)).trans c1
    replace c2 := (hbx.cell (p := ⟨w.heap.size, 2, none⟩) (by simp; omega)).trans c2
    replace r0 := (hbx.cell (p := ⟨w.heap.size + 1, 0, none⟩) (by simp; omega)).trans r0
    replace r1 := (hbx.cell (p := ⟨w.heap.size + 1, 1, none⟩) (by simp; omega)).trans r1
    replace r2 := (hbx.cell (p := ⟨w.heap.size + 1, 2, none⟩) (by simp; omega)).trans r2
    replace g0 := (hbx.frozen (p := ⟨w.heap.size + 1, 0, none⟩) (by simp; omega)).trans g0
    replace g1 := (hbx.frozen (p := ⟨w.heap.size + 1, 1, none⟩) (by simp; omega)).trans g1
    replace g2 := (hbx.frozen (p := ⟨w.heap.size + 1, 2, none⟩) (by simp; omega)).trans g2
    replace hbW := Lib.hid (hbW.out.trans (hbx.mono (by omega)))
    replace hzW := Nat.lt_of_lt_of_le hzW hbx.size
    have k0 := cell_regrown c0
    have k1 := cell_regrown c1
    have k2 := cell_regrown c2
    by_cases hlt : j < (wk - wd (num y m 1 - 1 + n)) % 7
    · have hj7 : j < 7 := by omega
      have hq1 := wd_fwd_ne hj0 hlt hw
      have hq2 : (wd ((num y m 1 - 1 + n) + j) != wk) = true := by rw [bne, hq1]; rfl
      go_wp2_with (go_step)
      refine wp_region_quiet_below (by kernel_rfl) (by kernel_rfl) ?_
      repeat (go_big_quiet_step ((go_at_call 18; exact Calls.regrown_of (Calls.bel (weekdayOf_any _ _)))))
      refine wpQuiet_nil ?_
      intro _ hw'
      obtain ⟨⟨dq, osq⟩, hw''⟩ := hw'
      subst hw''
      have hb3 := below_regrown wr dq osq
      generalize grow (redrawn wr dq) osq = w3 at hb3 ⊢
      clear k0 k1 k2
      replace c0 := (hb3.cell (p := ⟨w.heap.size, 0, none⟩) (by simp; omega)).trans c0
      replace c1 := (hb3.cell (p := ⟨w.heap.size, 1, none⟩) (by simp; omega)).trans c1
      replace c2 := (hb3.cell (p := ⟨w.heap.size, 2, none⟩) (by simp; omega)).trans c2
      replace r0 := (hb3.cell (p := ⟨w.heap.size + 1, 0, none⟩) (by simp; omega)).trans r0
      replace r1 := (hb3.cell (p := ⟨w.heap.size + 1, 1, none⟩) (by simp; omega)).trans r1
      replace r2 := (hb3.cell (p := ⟨w.heap.size + 1, 2, none⟩) (by simp; omega)).trans r2
      replace g0 := (hb3.frozen (p := ⟨w.heap.size + 1, 0, none⟩) (by simp; omega)).trans g0
      replace g1 := (hb3.frozen (p := ⟨w.heap.size + 1, 1, none⟩) (by simp; omega)).trans g1
      replace g2 := (hb3.frozen (p := ⟨w.heap.size + 1, 2, none⟩) (by simp; omega)).trans g2
      replace hbW := Lib.hid (hbW.out.trans (hb3.mono (by omega)))
      replace hzW := Nat.lt_of_lt_of_le hzW hb3.size
      go_wp2_with (go_step)
      go_roundg (8 - (j + 1).toNat)
      case measure => have := HK.out; omega
      case rel => exact ⟨j + 1, by omega, by omega, by go_num, rfl, hbx.trans (hb3.mono hbx.size), rfl⟩
    · obtain rfl : j = (wk - wd (num y m 1 - 1 + n)) % 7 := by omega
      have hj7 : (wk - wd (num y m 1 - 1 + n)) % 7 < 7 := by omega
      have hq1 := wd_fwd_eq (n := (num y m 1 - 1 + n)) hw
      have hq2 : (wd ((num y m 1 - 1 + n) + (wk - wd (num y m 1 - 1 + n)) % 7) != wk) = false := by rw [bne, hq1]; rfl
      go_wp2_with (go_step)
      refine wp_region_quiet_below (by kernel_rfl) (by kernel_rfl) ?_
      repeat (go_big_quiet_step ((go_at_call 18; exact Calls.regrown_of (Calls.bel (weekdayOf_any _ _)))))
      refine wpQuiet_nil ?_
      intro _ hw'
      obtain ⟨⟨dq, osq⟩, hw''⟩ := hw'
      subst hw''
      have hb3 := below_regrown wr dq osq
      generalize grow (redrawn wr dq) osq = w3 at hb3 ⊢
      clear k0 k1 k2
      replace c0 := (hb3.cell (p := ⟨w.heap.size, 0, none⟩) (by simp; omega)).trans c0
      replace c1 := (hb3.cell (p := ⟨w.heap.size, 1, none⟩) (by simp; omega)).trans c1
      replace c2 := (hb3.cell (p := ⟨w.heap.size, 2, none⟩) (by simp; omega)).trans c2
      replace r0 := (hb3.cell (p := ⟨w.heap.size + 1, 0, none⟩) (by simp; omega)).trans r0
      replace r1 := (hb3.cell (p := ⟨w.heap.size + 1, 1, none⟩) (by simp; omega)).trans r1
      replace r2 := (hb3.cell (p := ⟨w.heap.size + 1, 2, none⟩) (by simp; omega)).trans r2
      replace g0 := (hb3.frozen (p := ⟨w.heap.size + 1, 0, none⟩) (by simp; omega)).trans g0
      replace g1 := (hb3.frozen (p := ⟨w.heap.size + 1, 1, none⟩) (by simp; omega)).trans g1
      replace g2 := (hb3.frozen (p := ⟨w.heap.size + 1, 2, none⟩) (by simp; omega)).trans g2
      replace hbW := Lib.hid (hbW.out.trans (hb3.mono (by omega)))
      replace hzW := Nat.lt_of_lt_of_le hzW hb3.size
      go_wp2_with (go_step)
      by_cases hr : -719162 ≤ ((num y m 1 - 1 + n) + (wk - wd (num y m 1 - 1 + n)) % 7) ∧ ((num y m 1 - 1 + n) + (wk - wd (num y m 1 - 1 + n)) % 7) ≤ 2932896
      · have hv : Hid (onV y m 3 wk n = (dateOf (((num y m 1 - 1 + n) + (wk - wd (num y m 1 - 1 + n)) % 7)), 0)) := Lib.hid (by unfold onV; rw [if_neg (by rw [hq.out]; simp)]; rw [onDay_3' y m wk n, if_pos hr])
        obtain ⟨y', m', d', hp⟩ : ∃ y' m' d', dateOf (((num y m 1 - 1 + n) + (wk - wd (num y m 1 - 1 + n)) % 7)) = (y', m', d') := ⟨_, _, _, rfl⟩
        have HP := Lib.hid hp; clear hp
        go_wp2_with fail
        refine (firstDay_any _).mono ?_
        rintro e v1 ⟨rfl, hb5⟩
        replace c0 := (hb5.cell (p := ⟨w.heap.size, 0, none⟩) (by simp; omega)).trans c0
        replace c1 := (hb5.cell (p := ⟨w.heap.size, 1, none⟩) (by simp; omega)).trans c1
        replace c2 := (hb5.cell (p := ⟨w.heap.size, 2, none⟩) (by simp; omega)).trans c2
        replace r0 := (hb5.cell (p := ⟨w.heap.size + 1, 0, none⟩) (by simp; omega)).trans r0
        replace r1 := (hb5.cell (p := ⟨w.heap.size + 1, 1, none⟩) (by simp; omega)).trans r1
        replace r2 := (hb5.cell (p := ⟨w.heap.size + 1, 2, none⟩) (by simp; omega)).trans r2
        replace g0 := (hb5.frozen (p := ⟨w.heap.size + 1, 0, none⟩) (by simp; omega)).trans g0
        replace g1 := (hb5.frozen (p := ⟨w.heap.size + 1, 1, none⟩) (by simp; omega)).trans g1
        replace g2 := (hb5.frozen (p := ⟨w.heap.size + 1, 2, none⟩) (by simp; omega)).trans g2
        replace hbW := Lib.hid (hbW.out.trans (hb5.mono (by omega)))
        replace hzW := Nat.lt_of_lt_of_le hzW hb5.size
        go_wp2_with fail
        refine (lastDay_any _).mono ?_
        rintro e v2 ⟨rfl, hb6⟩
        replace c0 := (hb6.cell (p := ⟨w.heap.size, 0, none⟩) (by simp; omega)).trans c0
        replace c1 := (hb6.cell (p := ⟨w.heap.size, 1, none⟩) (by simp; omega)).trans c1
        replace c2 := (hb6.cell (p := ⟨w.heap.size, 2, none⟩) (by simp; omega)).trans c2
        replace r0 := (hb6.cell (p := ⟨w.heap.size + 1, 0, none⟩) (by simp; omega)).trans r0
        replace r1 := (hb6.cell (p := ⟨w.heap.size + 1, 1, none⟩) (by simp; omega)).trans r1
        replace r2 := (hb6.cell (p := ⟨w.heap.size + 1, 2, none⟩) (by simp; omega)).trans r2
        replace g0 := (hb6.frozen (p := ⟨w.heap.size + 1, 0, none⟩) (by simp; omega)).trans g0
        replace g1 := (hb6.frozen (p := ⟨w.heap.size + 1, 1, none⟩) (by simp; omega)).trans g1
        replace g2 := (hb6.frozen (p := ⟨w.heap.size + 1, 2, none⟩) (by simp; omega)).trans g2
        replace hbW := Lib.hid (hbW.out.trans (hb6.mono (by omega)))
        replace hzW := Nat.lt_of_lt_of_le hzW hb6.size
        go_wp2_with (go_at_call 27; refine (between_t _ _ _ _ (by omega)).mono ?_; rintro e w' ⟨rfl, rfl⟩)
        refine (refDateOf_any _ _ hr.1 hr.2).mono ?_
        rintro e v3 ⟨rfl, hb7⟩
        rw [HP.out]
        dsimp only [dv]
        replace c0 := (hb7.cell (p := ⟨w.heap.size, 0, none⟩) (by simp; omega)).trans c0
        replace c1 := (hb7.cell (p := ⟨w.heap.size, 1, none⟩) (by simp; omega)).trans c1
        replace c2 := (hb7.cell (p := ⟨w.heap.size, 2, none⟩) (by simp; omega)).trans c2
        replace r0 := (hb7.cell (p := ⟨w.heap.size + 1, 0, none⟩) (by simp; omega)).trans r0
        replace r1 := (hb7.cell (p := ⟨w.heap.size + 1, 1, none⟩) (by simp; omega)).trans r1
        replace r2 := (hb7.cell (p := ⟨w.heap.size + 1, 2, none⟩) (by simp; omega)).trans r2
        replace g0 := (hb7.frozen (p := ⟨w.heap.size + 1, 0, none⟩) (by simp; omega)).trans g0
        replace g1 := (hb7.frozen (p := ⟨w.heap.size + 1, 1, none⟩) (by simp; omega)).trans g1
        replace g2 := (hb7.frozen (p := ⟨w.heap.size + 1, 2, none⟩) (by simp; omega)).trans g2
        replace hbW := Lib.hid (hbW.out.trans (hb7.mono (by omega)))
        replace hzW := Nat.lt_of_lt_of_le hzW hb7.size
        go_wp2_with fail
        refine bodyPost_ret (v := .tuple #[.agg #[.int .i64 y', .int .i64 m', .int .i64 d'], .int .i64 0]) (by simp [results, Try.results20, go_sem, r0, r1, r2]) rfl ⟨by rw [hv.out, HP.out]; rfl, ?_⟩
        exact (((hbW.out.setCell (by simp) _).setCell (by simp) _).setCell (by simp) _)
      · have hv : Hid (onV y m 3 wk n = ((0, 0, 0), 3)) := Lib.hid (by unfold onV; rw [if_neg (by rw [hq.out]; simp)]; rw [onDay_3' y m wk n, if_neg hr])
        go_wp2_with fail
        refine (firstDay_any _).mono ?_
        rintro e v1 ⟨rfl, hb5⟩
        replace c0 := (hb5.cell (p := ⟨w.heap.size, 0, none⟩) (by simp; omega)).trans c0
        replace c1 := (hb5.cell (p := ⟨w.heap.size, 1, none⟩) (by simp; omega)).trans c1
        replace c2 := (hb5.cell (p := ⟨w.heap.size, 2, none⟩) (by simp; omega)).trans c2
        replace r0 := (hb5.cell (p := ⟨w.heap.size + 1, 0, none⟩) (by simp; omega)).trans r0
        replace r1 := (hb5.cell (p := ⟨w.heap.size + 1, 1, none⟩) (by simp; omega)).trans r1
        replace r2 := (hb5.cell (p := ⟨w.heap.size + 1, 2, none⟩) (by simp; omega)).trans r2
        replace g0 := (hb5.frozen (p := ⟨w.heap.size + 1, 0, none⟩) (by simp; omega)).trans g0
        replace g1 := (hb5.frozen (p := ⟨w.heap.size + 1, 1, none⟩) (by simp; omega)).trans g1
        replace g2 := (hb5.frozen (p := ⟨w.heap.size + 1, 2, none⟩) (by simp; omega)).trans g2
        replace hbW := Lib.hid (hbW.out.trans (hb5.mono (by omega)))
        replace hzW := Nat.lt_of_lt_of_le hzW hb5.size
        go_wp2_with fail
        refine (lastDay_any _).mono ?_
        rintro e v2 ⟨rfl, hb6⟩
        replace c0 := (hb6.cell (p := ⟨w.heap.size, 0, none⟩) (by simp; omega)).trans c0
        replace c1 := (hb6.cell (p := ⟨w.heap.size, 1, none⟩) (by simp; omega)).trans c1
        replace c2 := (hb6.cell (p := ⟨w.heap.size, 2, none⟩) (by simp; omega)).trans c2
        replace r0 := (hb6.cell (p := ⟨w.heap.size + 1, 0, none⟩) (by simp; omega)).trans r0
        replace r1 := (hb6.cell (p := ⟨w.heap.size + 1, 1, none⟩) (by simp; omega)).trans r1
        replace r2 := (hb6.cell (p := ⟨w.heap.size + 1, 2, none⟩) (by simp; omega)).trans r2
        replace g0 := (hb6.frozen (p := ⟨w.heap.size + 1, 0, none⟩) (by simp; omega)).trans g0
        replace g1 := (hb6.frozen (p := ⟨w.heap.size + 1, 1, none⟩) (by simp; omega)).trans g1
        replace g2 := (hb6.frozen (p := ⟨w.heap.size + 1, 2, none⟩) (by simp; omega)).trans g2
        replace hbW := Lib.hid (hbW.out.trans (hb6.mono (by omega)))
        replace hzW := Nat.lt_of_lt_of_le hzW hb6.size
        have HR : Hid (((num y m 1 - 1 + n) + (wk - wd (num y m 1 - 1 + n)) % 7) < -719162 ∨ 2932896 < ((num y m 1 - 1 + n) + (wk - wd (num y m 1 - 1 + n)) % 7)) := Lib.hid (by omega)
        clear hr
        go_wp2_with (go_at_call 27; refine (between_f _ _ _ _ HR.out).mono ?_; rintro e w' ⟨rfl, rfl⟩)
        refine bodyPost_ret (v := .tuple #[.agg #[.int .i64 0, .int .i64 0, .int .i64 0], .int .i64 3]) (by simp [results, Try.results20, go_sem, r0, r1, r2]) rfl ⟨by rw [hv.out]; rfl, ?_⟩
        exact (((hbW.out.setCell (by simp) _).setCell (by simp) _).setCell (by simp) _)

set_option maxHeartbeats 1000000 in
theorem refOn_4 (y m wk n : Int) (w : World) (hy : 1 ≤ y ∧ y ≤ 9999) (hm : 1 ≤ m ∧ m ≤ 12) (hw : 0 ≤ wk ∧ wk ≤ 6) (hn : 1 ≤ n ∧ n ≤ mlen y m) :
    Calls Try.prog 20 #[.int .i64 y, .int .i64 m, .agg #[.int .i64 4, .int .i64 wk, .int .i64 n]] w fun e w' => e = .returned (.tuple #[dv (onV y m 4 wk n).1, .int .i64 (onV y m 4 wk n).2]) ∧ Below w.heap.size w w' := by
  have hml := mlen_bd y m
  have hnb := num_bd (isDate_iff.2 ⟨hy.1, hy.2, hm.1, hm.2, by omega, by omega⟩ : isDate y m 1 = true)
  have hq : Hid (formE y m 4 wk n = 0) := Lib.hid (by unfold formE; rw [if_neg (by omega), if_neg (by omega), if_neg (by omega), if_neg (by omega)])
  go_enter Try.func20, Try.ntmps20
  go_wp2_with (first | (go_at_call 27; (first | (refine (between_t _ _ _ _ (by omega)).mono ?_) | (refine (between_f _ _ _ _ (by omega)).mono ?_)); rintro e w' ⟨rfl, rfl⟩) | (go_at_call 28; refine (monthLength_any _ _ _ (by omega)).mono ?_; rintro e w' ⟨rfl, rfl⟩))
  generalize hW : (w.alloc (.cells #[.int .i64 4, .int .i64 wk, .int .i64 n] 38)).alloc (.cells #[.int .i64 0, .int .i64 0, .int .i64 0] 23) = W
  have c0 : W.cell? ⟨w.heap.size, 0, none⟩ = some (.int .i64 4) := by subst hW; simp
  have c1 : W.cell? ⟨w.heap.size, 1, none⟩ = some (.int .i64 wk) := by subst hW; simp
  have c2 : W.cell? ⟨w.heap.size, 2, none⟩ = some (.int .i64 n) := by subst hW; simp
  have r0 : W.cell? ⟨w.heap.size + 1, 0, none⟩ = some (.int .i64 0) := by subst hW; simp
  have r1 : W.cell? ⟨w.heap.size + 1, 1, none⟩ = some (.int .i64 0) := by subst hW; simp
  have r2 : W.cell? ⟨w.heap.size + 1, 2, none⟩ = some (.int .i64 0) := by subst hW; simp
  have g0 : W.frozen? ⟨w.heap.size + 1, 0, none⟩ = false := by subst hW; simp
  have g1 : W.frozen? ⟨w.heap.size + 1, 1, none⟩ = false := by subst hW; simp
  have g2 : W.frozen? ⟨w.heap.size + 1, 2, none⟩ = false := by subst hW; simp
  have hbW : Hid (Below w.heap.size w W) := Lib.hid (by subst hW; exact ((Below.refl _ _).alloc (Nat.le_refl _) _).alloc (by simp) _)
  have hzW : w.heap.size + 1 < W.heap.size := by subst hW; simp
  clear hW
  refine (daysOf_any _ _ _ _ (by omega) (by omega) (by omega) (by omega) (by omega) (by omega)).mono ?_
  rintro e w1 ⟨rfl, hb1⟩
  replace c0 := (hb1.cell (p := ⟨w.heap.size, 0, none⟩) (by simp; omega)).trans c0
  replace c1 := (hb1.cell (p := ⟨w.heap.size, 1, none⟩) (by simp; omega)).trans c1
  replace c2 := (hb1.cell (p := ⟨w.heap.size, 2, none⟩) (by simp; omega)).trans c2
  replace r0 := (hb1.cell (p := ⟨w.heap.size + 1, 0, none⟩) (by simp; omega)).trans r0
  replace r1 := (hb1.cell (p := ⟨w.heap.size + 1, 1, none⟩) (by simp; omega)).trans r1
  replace r2 := (hb1.cell (p := ⟨w.heap.size + 1, 2, none⟩) (by simp; omega)).trans r2
  replace g0 := (hb1.frozen (p := ⟨w.heap.size + 1, 0, none⟩) (by simp; omega)).trans g0
  replace g1 := (hb1.frozen (p := ⟨w.heap.size + 1, 1, none⟩) (by simp; omega)).trans g1
  replace g2 := (hb1.frozen (p := ⟨w.heap.size + 1, 2, none⟩) (by simp; omega)).trans g2
  replace hbW := Lib.hid (hbW.out.trans (hb1.mono (by omega)))
  replace hzW := Nat.lt_of_lt_of_le hzW hb1.size
  go_wp2_with fail
  have hD : 0 ≤ (wd (num y m 1 - 1 + n) - wk) % 7 ∧ (wd (num y m 1 - 1 + n) - wk) % 7 ≤ 6 := by omega
  go_loopg [9, 10] 8 (fun g a b wx => ∃ j : Int, 0 ≤ j ∧ j ≤ (wd (num y m 1 - 1 + n) - wk) % 7 ∧ a = .int .i64 ((num y m 1 - 1 + n) - j) ∧ b = .int .i64 j ∧ Below w1.heap.size w1 wx ∧ g = 8 - j.toNat)
  case atStart => exact ⟨0, by omega, hD.1, by simp, rfl, Below.refl _ _, rfl⟩
  case round =>
    obtain ⟨j, hj0, hj1, rfl, rfl, hbx, hgk⟩ := hrel
    have HK := Lib.hid hgk; clear hgk
    replace c0 := (hbx.cell (p := ⟨w.heap.size, 0, none⟩) (by simp; omega)).trans c0
    replace c1 := (hbx.cell (p := ⟨w.heap.size, 1, none⟩) (by simp; omega)).trans c1
    replace c2 := (hbx.cell (p := ⟨w.heap.size, 2, none⟩) (by simp; omega)).trans c2
    replace r0 := (hbx.cell (p := ⟨w.heap.size + 1, 0, none⟩) (by simp; omega)).trans r0
    replace r1 := (hbx.cell (p := ⟨w.heap.size + 1, 1, none⟩) (by simp; omega)).trans r1
    replace r2 := (hbx.cell (p := ⟨w.heap.size + 1, 2, none⟩) (by simp; omega)).trans r2
    replace g0 := (hbx.frozen (p := ⟨w.heap.size + 1, 0, none⟩) (by simp; omega)).trans g0
    replace g1 := (hbx.frozen (p := ⟨w.heap.size + 1, 1, none⟩) (by simp; omega)).trans g1
    replace g2 := (hbx.frozen (p := ⟨w.heap.size + 1, 2, none⟩) (by simp; omega)).trans g2
    replace hbW := Lib.hid (hbW.out.trans (hbx.mono (by omega)))
    replace hzW := Nat.lt_of_lt_of_le hzW hbx.size
    have k0 := cell_regrown c0
    have k1 := cell_regrown c1
    have k2 := cell_regrown c2
    by_cases hlt : j < (wd (num y m 1 - 1 + n) - wk) % 7
    · have hj7 : j < 7 := by omega
      have hq1 := wd_bwd_ne hj0 hlt hw
      have hq2 : (wd ((num y m 1 - 1 + n) - j) != wk) = true := by rw [bne, hq1]; rfl
      go_wp2_with (go_step)
      refine wp_region_quiet_below (by kernel_rfl) (by kernel_rfl) ?_
      repeat (go_big_quiet_step ((go_at_call 18; exact Calls.regrown_of (Calls.bel (weekdayOf_any _ _)))))
      refine wpQuiet_nil ?_
      intro _ hw'
      obtain ⟨⟨dq, osq⟩, hw''⟩ := hw'
      subst hw''
      have hb3 := below_regrown wr dq osq
      generalize grow (redrawn wr dq) osq = w3 at hb3 ⊢
      clear k0 k1 k2
      replace c0 := (hb3.cell (p := ⟨w.heap.size, 0, none⟩) (by simp; omega)).trans c0
      replace c1 := (hb3.cell (p := ⟨w.heap.size, 1, none⟩) (by simp; omega)).trans c1
      replace c2 := (hb3.cell (p := ⟨w.heap.size, 2, none⟩) (by simp; omega)).trans c2
      replace r0 := (hb3.cell (p := ⟨w.heap.size + 1, 0, none⟩) (by simp; omega)).trans r0
      replace r1 := (hb3.cell (p := ⟨w.heap.size + 1, 1, none⟩) (by simp; omega)).trans r1
      replace r2 := (hb3.cell (p := ⟨w.heap.size + 1, 2, none⟩) (by simp; omega)).trans r2
      replace g0 := (hb3.frozen (p := ⟨w.heap.size + 1, 0, none⟩) (by simp; omega)).trans g0
      replace g1 := (hb3.frozen (p := ⟨w.heap.size + 1, 1, none⟩) (by simp; omega)).trans g1
      replace g2 := (hb3.frozen (p := ⟨w.heap.size + 1, 2, none⟩) (by simp; omega)).trans g2
      replace hbW := Lib.hid (hbW.out.trans (hb3.mono (by omega)))
      replace hzW := Nat.lt_of_lt_of_le hzW hb3.size
      go_wp2_with (go_step)
      go_roundg (8 - (j + 1).toNat)
      case measure => have := HK.out; omega
      case rel => exact ⟨j + 1, by omega, by omega, by go_num, rfl, hbx.trans (hb3.mono hbx.size), rfl⟩
    · obtain rfl : j = (wd (num y m 1 - 1 + n) - wk) % 7 := by omega
      have hj7 : (wd (num y m 1 - 1 + n) - wk) % 7 < 7 := by omega
      have hq1 := wd_bwd_eq (n := (num y m 1 - 1 + n)) hw
      have hq2 : (wd ((num y m 1 - 1 + n) - (wd (num y m 1 - 1 + n) - wk) % 7) != wk) = false := by rw [bne, hq1]; rfl
      go_wp2_with (go_step)
      refine wp_region_quiet_below (by kernel_rfl) (by kernel_rfl) ?_
      repeat (go_big_quiet_step ((go_at_call 18; exact Calls.regrown_of (Calls.bel (weekdayOf_any _ _)))))
      refine wpQuiet_nil ?_
      intro _ hw'
      obtain ⟨⟨dq, osq⟩, hw''⟩ := hw'
      subst hw''
      have hb3 := below_regrown wr dq osq
      generalize grow (redrawn wr dq) osq = w3 at hb3 ⊢
      clear k0 k1 k2
      replace c0 := (hb3.cell (p := ⟨w.heap.size, 0, none⟩) (by simp; omega)).trans c0
      replace c1 := (hb3.cell (p := ⟨w.heap.size, 1, none⟩) (by simp; omega)).trans c1
      replace c2 := (hb3.cell (p := ⟨w.heap.size, 2, none⟩) (by simp; omega)).trans c2
      replace r0 := (hb3.cell (p := ⟨w.heap.size + 1, 0, none⟩) (by simp; omega)).trans r0
      replace r1 := (hb3.cell (p := ⟨w.heap.size + 1, 1, none⟩) (by simp; omega)).trans r1
      replace r2 := (hb3.cell (p := ⟨w.heap.size + 1, 2, none⟩) (by simp; omega)).trans r2
      replace g0 := (hb3.frozen (p := ⟨w.heap.size + 1, 0, none⟩) (by simp; omega)).trans g0
      replace g1 := (hb3.frozen (p := ⟨w.heap.size + 1, 1, none⟩) (by simp; omega)).trans g1
      replace g2 := (hb3.frozen (p := ⟨w.heap.size + 1, 2, none⟩) (by simp; omega)).trans g2
      replace hbW := Lib.hid (hbW.out.trans (hb3.mono (by omega)))
      replace hzW := Nat.lt_of_lt_of_le hzW hb3.size
      go_wp2_with (go_step)
      by_cases hr : -719162 ≤ ((num y m 1 - 1 + n) - (wd (num y m 1 - 1 + n) - wk) % 7) ∧ ((num y m 1 - 1 + n) - (wd (num y m 1 - 1 + n) - wk) % 7) ≤ 2932896
      · have hv : Hid (onV y m 4 wk n = (dateOf (((num y m 1 - 1 + n) - (wd (num y m 1 - 1 + n) - wk) % 7)), 0)) := Lib.hid (by unfold onV; rw [if_neg (by rw [hq.out]; simp)]; rw [onDay_4' y m wk n, if_pos hr])
        obtain ⟨y', m', d', hp⟩ : ∃ y' m' d', dateOf (((num y m 1 - 1 + n) - (wd (num y m 1 - 1 + n) - wk) % 7)) = (y', m', d') := ⟨_, _, _, rfl⟩
        have HP := Lib.hid hp; clear hp
        go_wp2_with fail
        refine (firstDay_any _).mono ?_
        rintro e v1 ⟨rfl, hb5⟩
        replace c0 := (hb5.cell (p := ⟨w.heap.size, 0, none⟩) (by simp; omega)).trans c0
        replace c1 := (hb5.cell (p := ⟨w.heap.size, 1, none⟩) (by simp; omega)).trans c1
        replace c2 := (hb5.cell (p := ⟨w.heap.size, 2, none⟩) (by simp; omega)).trans c2
        replace r0 := (hb5.cell (p := ⟨w.heap.size + 1, 0, none⟩) (by simp; omega)).trans r0
        replace r1 := (hb5.cell (p := ⟨w.heap.size + 1, 1, none⟩) (by simp; omega)).trans r1
        replace r2 := (hb5.cell (p := ⟨w.heap.size + 1, 2, none⟩) (by simp; omega)).trans r2
        replace g0 := (hb5.frozen (p := ⟨w.heap.size + 1, 0, none⟩) (by simp; omega)).trans g0
        replace g1 := (hb5.frozen (p := ⟨w.heap.size + 1, 1, none⟩) (by simp; omega)).trans g1
        replace g2 := (hb5.frozen (p := ⟨w.heap.size + 1, 2, none⟩) (by simp; omega)).trans g2
        replace hbW := Lib.hid (hbW.out.trans (hb5.mono (by omega)))
        replace hzW := Nat.lt_of_lt_of_le hzW hb5.size
        go_wp2_with fail
        refine (lastDay_any _).mono ?_
        rintro e v2 ⟨rfl, hb6⟩
        replace c0 := (hb6.cell (p := ⟨w.heap.size, 0, none⟩) (by simp; omega)).trans c0
        replace c1 := (hb6.cell (p := ⟨w.heap.size, 1, none⟩) (by simp; omega)).trans c1
        replace c2 := (hb6.cell (p := ⟨w.heap.size, 2, none⟩) (by simp; omega)).trans c2
        replace r0 := (hb6.cell (p := ⟨w.heap.size + 1, 0, none⟩) (by simp; omega)).trans r0
        replace r1 := (hb6.cell (p := ⟨w.heap.size + 1, 1, none⟩) (by simp; omega)).trans r1
        replace r2 := (hb6.cell (p := ⟨w.heap.size + 1, 2, none⟩) (by simp; omega)).trans r2
        replace g0 := (hb6.frozen (p := ⟨w.heap.size + 1, 0, none⟩) (by simp; omega)).trans g0
        replace g1 := (hb6.frozen (p := ⟨w.heap.size + 1, 1, none⟩) (by simp; omega)).trans g1
        replace g2 := (hb6.frozen (p := ⟨w.heap.size + 1, 2, none⟩) (by simp; omega)).trans g2
        replace hbW := Lib.hid (hbW.out.trans (hb6.mono (by omega)))
        replace hzW := Nat.lt_of_lt_of_le hzW hb6.size
        go_wp2_with (go_at_call 27; refine (between_t _ _ _ _ (by omega)).mono ?_; rintro e w' ⟨rfl, rfl⟩)
        refine (refDateOf_any _ _ hr.1 hr.2).mono ?_
        rintro e v3 ⟨rfl, hb7⟩
        rw [HP.out]
        dsimp only [dv]
        replace c0 := (hb7.cell (p := ⟨w.heap.size, 0, none⟩) (by simp; omega)).trans c0
        replace c1 := (hb7.cell (p := ⟨w.heap.size, 1, none⟩) (by simp; omega)).trans c1
        replace c2 := (hb7.cell (p := ⟨w.heap.size, 2, none⟩) (by simp; omega)).trans c2
        replace r0 := (hb7.cell (p := ⟨w.heap.size + 1, 0, none⟩) (by simp; omega)).trans r0
        replace r1 := (hb7.cell (p := ⟨w.heap.size + 1, 1, none⟩) (by simp; omega)).trans r1
        replace r2 := (hb7.cell (p := ⟨w.heap.size + 1, 2, none⟩) (by simp; omega)).trans r2
        replace g0 := (hb7.frozen (p := ⟨w.heap.size + 1, 0, none⟩) (by simp; omega)).trans g0
        replace g1 := (hb7.frozen (p := ⟨w.heap.size + 1, 1, none⟩) (by simp; omega)).trans g1
        replace g2 := (hb7.frozen (p := ⟨w.heap.size + 1, 2, none⟩) (by simp; omega)).trans g2
        replace hbW := Lib.hid (hbW.out.trans (hb7.mono (by omega)))
        replace hzW := Nat.lt_of_lt_of_le hzW hb7.size
        go_wp2_with fail
        refine bodyPost_ret (v := .tuple #[.agg #[.int .i64 y', .int .i64 m', .int .i64 d'], .int .i64 0]) (by simp [results, Try.results20, go_sem, r0, r1, r2]) rfl ⟨by rw [hv.out, HP.out]; rfl, ?_⟩
        exact (((hbW.out.setCell (by simp) _).setCell (by simp) _).setCell (by simp) _)
      · have hv : Hid (onV y m 4 wk n = ((0, 0, 0), 3)) := Lib.hid (by unfold onV; rw [if_neg (by rw [hq.out]; simp)]; rw [onDay_4' y m wk n, if_neg hr])
        go_wp2_with fail
        refine (firstDay_any _).mono ?_
        rintro e v1 ⟨rfl, hb5⟩
        replace c0 := (hb5.cell (p := ⟨w.heap.size, 0, none⟩) (by simp; omega)).trans c0
        replace c1 := (hb5.cell (p := ⟨w.heap.size, 1, none⟩) (by simp; omega)).trans c1
        replace c2 := (hb5.cell (p := ⟨w.heap.size, 2, none⟩) (by simp; omega)).trans c2
        replace r0 := (hb5.cell (p := ⟨w.heap.size + 1, 0, none⟩) (by simp; omega)).trans r0
        replace r1 := (hb5.cell (p := ⟨w.heap.size + 1, 1, none⟩) (by simp; omega)).trans r1
        replace r2 := (hb5.cell (p := ⟨w.heap.size + 1, 2, none⟩) (by simp; omega)).trans r2
        replace g0 := (hb5.frozen (p := ⟨w.heap.size + 1, 0, none⟩) (by simp; omega)).trans g0
        replace g1 := (hb5.frozen (p := ⟨w.heap.size + 1, 1, none⟩) (by simp; omega)).trans g1
        replace g2 := (hb5.frozen (p := ⟨w.heap.size + 1, 2, none⟩) (by simp; omega)).trans g2
        replace hbW := Lib.hid (hbW.out.trans (hb5.mono (by omega)))
        replace hzW := Nat.lt_of_lt_of_le hzW hb5.size
        go_wp2_with fail
        refine (lastDay_any _).mono ?_
        rintro e v2 ⟨rfl, hb6⟩
        replace c0 := (hb6.cell (p := ⟨w.heap.size, 0, none⟩) (by simp; omega)).trans c0
        replace c1 := (hb6.cell (p := ⟨w.heap.size, 1, none⟩) (by simp; omega)).trans c1
        replace c2 := (hb6.cell (p := ⟨w.heap.size, 2, none⟩) (by simp; omega)).trans c2
        replace r0 := (hb6.cell (p := ⟨w.heap.size + 1, 0, none⟩) (by simp; omega)).trans r0
        replace r1 := (hb6.cell (p := ⟨w.heap.size + 1, 1, none⟩) (by simp; omega)).trans r1
        replace r2 := (hb6.cell (p := ⟨w.heap.size + 1, 2, none⟩) (by simp; omega)).trans r2
        replace g0 := (hb6.frozen (p := ⟨w.heap.size + 1, 0, none⟩) (by simp; omega)).trans g0
        replace g1 := (hb6.frozen (p := ⟨w.heap.size + 1, 1, none⟩) (by simp; omega)).trans g1
        replace g2 := (hb6.frozen (p := ⟨w.heap.size + 1, 2, none⟩) (by simp; omega)).trans g2
        replace hbW := Lib.hid (hbW.out.trans (hb6.mono (by omega)))
        replace hzW := Nat.lt_of_lt_of_le hzW hb6.size
        have HR : Hid (((num y m 1 - 1 + n) - (wd (num y m 1 - 1 + n) - wk) % 7) < -719162 ∨ 2932896 < ((num y m 1 - 1 + n) - (wd (num y m 1 - 1 + n) - wk) % 7)) := Lib.hid (by omega)
        clear hr
        go_wp2_with (go_at_call 27; refine (between_f _ _ _ _ HR.out).mono ?_; rintro e w' ⟨rfl, rfl⟩)
        refine bodyPost_ret (v := .tuple #[.agg #[.int .i64 0, .int .i64 0, .int .i64 0], .int .i64 3]) (by simp [results, Try.results20, go_sem, r0, r1, r2]) rfl ⟨by rw [hv.out]; rfl, ?_⟩
        exact (((hbW.out.setCell (by simp) _).setCell (by simp) _).setCell (by simp) _)

set_option maxHeartbeats 1000000 in
theorem refOn_2 (y m wk : Int) (w : World) (hy : 1 ≤ y ∧ y ≤ 9999) (hm : 1 ≤ m ∧ m ≤ 12) (hw : 0 ≤ wk ∧ wk ≤ 6) :
    Calls Try.prog 20 #[.int .i64 y, .int .i64 m, .agg #[.int .i64 2, .int .i64 wk, .int .i64 0]] w fun e w' => e = .returned (.tuple #[dv (onV y m 2 wk 0).1, .int .i64 (onV y m 2 wk 0).2]) ∧ Below w.heap.size w w' := by
  have hml := mlen_bd y m
  have hnb := num_bd (isDate_iff.2 ⟨hy.1, hy.2, hm.1, hm.2, by omega, by omega⟩ : isDate y m 1 = true)
  have hq : Hid (formE y m 2 wk 0 = 0) := Lib.hid (by unfold formE; rw [if_neg (by omega), if_neg (by omega), if_neg (by omega), if_neg (by omega)])
  go_enter Try.func20, Try.ntmps20
  go_wp2_with (first | (go_at_call 27; (first | (refine (between_t _ _ _ _ (by omega)).mono ?_) | (refine (between_f _ _ _ _ (by omega)).mono ?_)); rintro e w' ⟨rfl, rfl⟩) | (go_at_call 28; refine (monthLength_any _ _ _ (by omega)).mono ?_; rintro e w' ⟨rfl, rfl⟩))
  generalize hW : (w.alloc (.cells #[.int .i64 2, .int .i64 wk, .int .i64 0] 38)).alloc (.cells #[.int .i64 0, .int .i64 0, .int .i64 0] 23) = W
  have c0 : W.cell? ⟨w.heap.size, 0, none⟩ = some (.int .i64 2) := by subst hW; simp
  have c1 : W.cell? ⟨w.heap.size, 1, none⟩ = some (.int .i64 wk) := by subst hW; simp
  have c2 : W.cell? ⟨w.heap.size, 2, none⟩ = some (.int .i64 0) := by subst hW; simp
  have r0 : W.cell? ⟨w.heap.size + 1, 0, none⟩ = some (.int .i64 0) := by subst hW; simp
  have r1 : W.cell? ⟨w.heap.size + 1, 1, none⟩ = some (.int .i64 0) := by subst hW; simp
  have r2 : W.cell? ⟨w.heap.size + 1, 2, none⟩ = some (.int .i64 0) := by subst hW; simp
  have g0 : W.frozen? ⟨w.heap.size + 1, 0, none⟩ = false := by subst hW; simp
  have g1 : W.frozen? ⟨w.heap.size + 1, 1, none⟩ = false := by subst hW; simp
  have g2 : W.frozen? ⟨w.heap.size + 1, 2, none⟩ = false := by subst hW; simp
  have hbW : Hid (Below w.heap.size w W) := Lib.hid (by subst hW; exact ((Below.refl _ _).alloc (Nat.le_refl _) _).alloc (by simp) _)
  have hzW : w.heap.size + 1 < W.heap.size := by subst hW; simp
  clear hW
  refine (daysOf_any _ _ _ _ (by omega) (by omega) (by omega) (by omega) (by omega) (by omega)).mono ?_
  rintro e w1 ⟨rfl, hb1⟩
  replace c0 := (hb1.cell (p := ⟨w.heap.size, 0, none⟩) (by simp; omega)).trans c0
  replace c1 := (hb1.cell (p := ⟨w.heap.size, 1, none⟩) (by simp; omega)).trans c1
  replace c2 := (hb1.cell (p := ⟨w.heap.size, 2, none⟩) (by simp; omega)).trans c2
  replace r0 := (hb1.cell (p := ⟨w.heap.size + 1, 0, none⟩) (by simp; omega)).trans r0
  replace r1 := (hb1.cell (p := ⟨w.heap.size + 1, 1, none⟩) (by simp; omega)).trans r1
  replace r2 := (hb1.cell (p := ⟨w.heap.size + 1, 2, none⟩) (by simp; omega)).trans r2
  replace g0 := (hb1.frozen (p := ⟨w.heap.size + 1, 0, none⟩) (by simp; omega)).trans g0
  replace g1 := (hb1.frozen (p := ⟨w.heap.size + 1, 1, none⟩) (by simp; omega)).trans g1
  replace g2 := (hb1.frozen (p := ⟨w.heap.size + 1, 2, none⟩) (by simp; omega)).trans g2
  replace hbW := Lib.hid (hbW.out.trans (hb1.mono (by omega)))
  replace hzW := Nat.lt_of_lt_of_le hzW hb1.size
  go_wp2_with fail
  have hD : 0 ≤ (wd (num y m 1 - 1 + mlen y m) - wk) % 7 ∧ (wd (num y m 1 - 1 + mlen y m) - wk) % 7 ≤ 6 := by omega
  go_loopg [9, 10] 8 (fun g a b wx => ∃ j : Int, 0 ≤ j ∧ j ≤ (wd (num y m 1 - 1 + mlen y m) - wk) % 7 ∧ a = .int .i64 ((num y m 1 - 1 + mlen y m) - j) ∧ b = .int .i64 j ∧ Below w1.heap.size w1 wx ∧ g = 8 - j.toNat)
  case atStart => exact ⟨0, by omega, hD.1, by simp, rfl, Below.refl _ _, rfl⟩
  case round =>
    obtain ⟨j, hj0, hj1, rfl, rfl, hbx, hgk⟩ := hrel
    have HK := Lib.hid hgk; clear hgk
    replace c0 := (hbx.cell (p := ⟨w.heap.size, 0, none⟩) (by simp; omega)).trans c0
    replace c1 := (hbx.cell (p := ⟨w.heap.size, 1, none⟩) (by simp; omega)).trans c1
    replace c2 := (hbx.cell (p := ⟨w.heap.size, 2, none⟩) (by simp; omega)).trans c2
    replace r0 := (hbx.cell (p := ⟨w.heap.size + 1, 0, none⟩) (by simp; omega)).trans r0
    replace r1 := (hbx.cell (p := ⟨w.heap.size + 1, 1, none⟩) (by simp; omega)).trans r1
    replace r2 := (hbx.cell (p := ⟨w.heap.size + 1, 2, none⟩) (by simp; omega)).trans r2
    replace g0 := (hbx.frozen (p := ⟨w.heap.size + 1, 0, none⟩) (by simp; omega)).trans g0
    replace g1 := (hbx.frozen (p := ⟨w.heap.size + 1, 1, none⟩) (by simp; omega)).trans g1
    replace g2 := (hbx.frozen (p := ⟨w.heap.size + 1, 2, none⟩) (by simp; omega)).trans g2
    replace hbW := Lib.hid (hbW.out.trans (hbx.mono (by omega)))
    replace hzW := Nat.lt_of_lt_of_le hzW hbx.size
    have k0 := cell_regrown c0
    have k1 := cell_regrown c1
    have k2 := cell_regrown c2
    by_cases hlt : j < (wd (num y m 1 - 1 + mlen y m) - wk) % 7
    · have hj7 : j < 7 := by omega
      have hq1 := wd_bwd_ne hj0 hlt hw
      have hq2 : (wd ((num y m 1 - 1 + mlen y m) - j) != wk) = true := by rw [bne, hq1]; rfl
      go_wp2_with (go_step)
      refine wp_region_quiet_below (by kernel_rfl) (by kernel_rfl) ?_
      repeat (go_big_quiet_step ((go_at_call 18; exact Calls.regrown_of (Calls.bel (weekdayOf_any _ _)))))
      refine wpQuiet_nil ?_
      intro _ hw'
      obtain ⟨⟨dq, osq⟩, hw''⟩ := hw'
      subst hw''
      have hb3 := below_regrown wr dq osq
      generalize grow (redrawn wr dq) osq = w3 at hb3 ⊢
      clear k0 k1 k2
      replace c0 := (hb3.cell (p := ⟨w.heap.size, 0, none⟩) (by simp; omega)).trans c0
      replace c1 := (hb3.cell (p := ⟨w.heap.size, 1, none⟩) (by simp; omega)).trans c1
      replace c2 := (hb3.cell (p := ⟨w.heap.size, 2, none⟩) (by simp; omega)).trans c2
      replace r0 := (hb3.cell (p := ⟨w.heap.size + 1, 0, none⟩) (by simp; omega)).trans r0
      replace r1 := (hb3.cell (p := ⟨w.heap.size + 1, 1, none⟩) (by simp; omega)).trans r1
      replace r2 := (hb3.cell (p := ⟨w.heap.size + 1, 2, none⟩) (by simp; omega)).trans r2
      replace g0 := (hb3.frozen (p := ⟨w.heap.size + 1, 0, none⟩) (by simp; omega)).trans g0
      replace g1 := (hb3.frozen (p := ⟨w.heap.size + 1, 1, none⟩) (by simp; omega)).trans g1
      replace g2 := (hb3.frozen (p := ⟨w.heap.size + 1, 2, none⟩) (by simp; omega)).trans g2
      replace hbW := Lib.hid (hbW.out.trans (hb3.mono (by omega)))
      replace hzW := Nat.lt_of_lt_of_le hzW hb3.size
      go_wp2_with (go_step)
      go_roundg (8 - (j + 1).toNat)
      case measure => have := HK.out; omega
      case rel => exact ⟨j + 1, by omega, by omega, by go_num, rfl, hbx.trans (hb3.mono hbx.size), rfl⟩
    · obtain rfl : j = (wd (num y m 1 - 1 + mlen y m) - wk) % 7 := by omega
      have hj7 : (wd (num y m 1 - 1 + mlen y m) - wk) % 7 < 7 := by omega
      have hq1 := wd_bwd_eq (n := (num y m 1 - 1 + mlen y m)) hw
      have hq2 : (wd ((num y m 1 - 1 + mlen y m) - (wd (num y m 1 - 1 + mlen y m) - wk) % 7) != wk) = false := by rw [bne, hq1]; rfl
      go_wp2_with (go_step)
      refine wp_region_quiet_below (by kernel_rfl) (by kernel_rfl) ?_
      repeat (go_big_quiet_step ((go_at_call 18; exact Calls.regrown_of (Calls.bel (weekdayOf_any _ _)))))
      refine wpQuiet_nil ?_
      intro _ hw'
      obtain ⟨⟨dq, osq⟩, hw''⟩ := hw'
      subst hw''
      have hb3 := below_regrown wr dq osq
      generalize grow (redrawn wr dq) osq = w3 at hb3 ⊢
      clear k0 k1 k2
      replace c0 := (hb3.cell (p := ⟨w.heap.size, 0, none⟩) (by simp; omega)).trans c0
      replace c1 := (hb3.cell (p := ⟨w.heap.size, 1, none⟩) (by simp; omega)).trans c1
      replace c2 := (hb3.cell (p := ⟨w.heap.size, 2, none⟩) (by simp; omega)).trans c2
      replace r0 := (hb3.cell (p := ⟨w.heap.size + 1, 0, none⟩) (by simp; omega)).trans r0
      replace r1 := (hb3.cell (p := ⟨w.heap.size + 1, 1, none⟩) (by simp; omega)).trans r1
      replace r2 := (hb3.cell (p := ⟨w.heap.size + 1, 2, none⟩) (by simp; omega)).trans r2
      replace g0 := (hb3.frozen (p := ⟨w.heap.size + 1, 0, none⟩) (by simp; omega)).trans g0
      replace g1 := (hb3.frozen (p := ⟨w.heap.size + 1, 1, none⟩) (by simp; omega)).trans g1
      replace g2 := (hb3.frozen (p := ⟨w.heap.size + 1, 2, none⟩) (by simp; omega)).trans g2
      replace hbW := Lib.hid (hbW.out.trans (hb3.mono (by omega)))
      replace hzW := Nat.lt_of_lt_of_le hzW hb3.size
      go_wp2_with (go_step)
      by_cases hr : -719162 ≤ ((num y m 1 - 1 + mlen y m) - (wd (num y m 1 - 1 + mlen y m) - wk) % 7) ∧ ((num y m 1 - 1 + mlen y m) - (wd (num y m 1 - 1 + mlen y m) - wk) % 7) ≤ 2932896
      · have hv : Hid (onV y m 2 wk 0 = (dateOf (((num y m 1 - 1 + mlen y m) - (wd (num y m 1 - 1 + mlen y m) - wk) % 7)), 0)) := Lib.hid (by unfold onV; rw [if_neg (by rw [hq.out]; simp)]; rw [onDay_2' y m wk 0, if_pos hr])
        obtain ⟨y', m', d', hp⟩ : ∃ y' m' d', dateOf (((num y m 1 - 1 + mlen y m) - (wd (num y m 1 - 1 + mlen y m) - wk) % 7)) = (y', m', d') := ⟨_, _, _, rfl⟩
        have HP := Lib.hid hp; clear hp
        go_wp2_with fail
        refine (firstDay_any _).mono ?_
        rintro e v1 ⟨rfl, hb5⟩
        replace c0 := (hb5.cell (p := ⟨w.heap.size, 0, none⟩) (by simp; omega)).trans c0
        replace c1 := (hb5.cell (p := ⟨w.heap.size, 1, none⟩) (by simp; omega)).trans c1
        replace c2 := (hb5.cell (p := ⟨w.heap.size, 2, none⟩) (by simp; omega)).trans c2
        replace r0 := (hb5.cell (p := ⟨w.heap.size + 1, 0, none⟩) (by simp; omega)).trans r0
        replace r1 := (hb5.cell (p := ⟨w.heap.size + 1, 1, none⟩) (by simp; omega)).trans r1
        replace r2 := (hb5.cell (p := ⟨w.heap.size + 1, 2, none⟩) (by simp; omega)).trans r2
        replace g0 := (hb5.frozen (p := ⟨w.heap.size + 1, 0, none⟩) (by simp; omega)).trans g0
        replace g1 := (hb5.frozen (p := ⟨w.heap.size + 1, 1, none⟩) (by simp; omega)).trans g1
        replace g2 := (hb5.frozen (p := ⟨w.heap.size + 1, 2, none⟩) (by simp; omega)).trans g2
        replace hbW := Lib.hid (hbW.out.trans (hb5.mono (by omega)))
        replace hzW := Nat.lt_of_lt_of_le hzW hb5.size
        go_wp2_with fail
        refine (lastDay_any _).mono ?_
        rintro e v2 ⟨rfl, hb6⟩
        replace c0 := (hb6.cell (p := ⟨w.heap.size, 0, none⟩) (by simp; omega)).trans c0
        replace c1 := (hb6.cell (p := ⟨w.heap.size, 1, none⟩) (by simp; omega)).trans c1
        replace c2 := (hb6.cell (p := ⟨w.heap.size, 2, none⟩) (by simp; omega)).trans c2
        replace r0 := (hb6.cell (p := ⟨w.heap.size + 1, 0, none⟩) (by simp; omega)).trans r0
        replace r1 := (hb6.cell (p := ⟨w.heap.size + 1, 1, none⟩) (by simp; omega)).trans r1
        replace r2 := (hb6.cell (p := ⟨w.heap.size + 1, 2, none⟩) (by simp; omega)).trans r2
        replace g0 := (hb6.frozen (p := ⟨w.heap.size + 1, 0, none⟩) (by simp; omega)).trans g0
        replace g1 := (hb6.frozen (p := ⟨w.heap.size + 1, 1, none⟩) (by simp; omega)).trans g1
        replace g2 := (hb6.frozen (p := ⟨w.heap.size + 1, 2, none⟩) (by simp; omega)).trans g2
        replace hbW := Lib.hid (hbW.out.trans (hb6.mono (by omega)))
        replace hzW := Nat.lt_of_lt_of_le hzW hb6.size
        go_wp2_with (go_at_call 27; refine (between_t _ _ _ _ (by omega)).mono ?_; rintro e w' ⟨rfl, rfl⟩)
        refine (refDateOf_any _ _ hr.1 hr.2).mono ?_
        rintro e v3 ⟨rfl, hb7⟩
        rw [HP.out]
        dsimp only [dv]
        replace c0 := (hb7.cell (p := ⟨w.heap.size, 0, none⟩) (by simp; omega)).trans c0
        replace c1 := (hb7.cell (p := ⟨w.heap.size, 1, none⟩) (by simp; omega)).trans c1
        replace c2 := (hb7.cell (p := ⟨w.heap.size, 2, none⟩) (by simp; omega)).trans c2
        replace r0 := (hb7.cell (p := ⟨w.heap.size + 1, 0, none⟩) (by simp; omega)).trans r0
        replace r1 := (hb7.cell (p := ⟨w.heap.size + 1, 1, none⟩) (by simp; omega)).trans r1
        replace r2 := (hb7.cell (p := ⟨w.heap.size + 1, 2, none⟩) (by simp; omega)).trans r2
        replace g0 := (hb7.frozen (p := ⟨w.heap.size + 1, 0, none⟩) (by simp; omega)).trans g0
        replace g1 := (hb7.frozen (p := ⟨w.heap.size + 1, 1, none⟩) (by simp; omega)).trans g1
        replace g2 := (hb7.frozen (p := ⟨w.heap.size + 1, 2, none⟩) (by simp; omega)).trans g2
        replace hbW := Lib.hid (hbW.out.trans (hb7.mono (by omega)))
        replace hzW := Nat.lt_of_lt_of_le hzW hb7.size
        go_wp2_with fail
        refine bodyPost_ret (v := .tuple #[.agg #[.int .i64 y', .int .i64 m', .int .i64 d'], .int .i64 0]) (by simp [results, Try.results20, go_sem, r0, r1, r2]) rfl ⟨by rw [hv.out, HP.out]; rfl, ?_⟩
        exact (((hbW.out.setCell (by simp) _).setCell (by simp) _).setCell (by simp) _)
      · have hv : Hid (onV y m 2 wk 0 = ((0, 0, 0), 3)) := Lib.hid (by unfold onV; rw [if_neg (by rw [hq.out]; simp)]; rw [onDay_2' y m wk 0, if_neg hr])
        go_wp2_with fail
        refine (firstDay_any _).mono ?_
        rintro e v1 ⟨rfl, hb5⟩
        replace c0 := (hb5.cell (p := ⟨w.heap.size, 0, none⟩) (by simp; omega)).trans c0
        replace c1 := (hb5.cell (p := ⟨w.heap.size, 1, none⟩) (by simp; omega)).trans c1
        replace c2 := (hb5.cell (p := ⟨w.heap.size, 2, none⟩) (by simp; omega)).trans c2
        replace r0 := (hb5.cell (p := ⟨w.heap.size + 1, 0, none⟩) (by simp; omega)).trans r0
        replace r1 := (hb5.cell (p := ⟨w.heap.size + 1, 1, none⟩) (by simp; omega)).trans r1
        replace r2 := (hb5.cell (p := ⟨w.heap.size + 1, 2, none⟩) (by simp; omega)).trans r2
        replace g0 := (hb5.frozen (p := ⟨w.heap.size + 1, 0, none⟩) (by simp; omega)).trans g0
        replace g1 := (hb5.frozen (p := ⟨w.heap.size + 1, 1, none⟩) (by simp; omega)).trans g1
        replace g2 := (hb5.frozen (p := ⟨w.heap.size + 1, 2, none⟩) (by simp; omega)).trans g2
        replace hbW := Lib.hid (hbW.out.trans (hb5.mono (by omega)))
        replace hzW := Nat.lt_of_lt_of_le hzW hb5.size
        go_wp2_with fail
        refine (lastDay_any _).mono ?_
        rintro e v2 ⟨rfl, hb6⟩
        replace c0 := (hb6.cell (p := ⟨w.heap.size, 0, none⟩) (by simp; omega)).trans c0
        replace c1 := (hb6.cell (p := ⟨w.heap.size, 1, none⟩) (by simp; omega)).trans c1
        replace c2 := (hb6.cell (p := ⟨w.heap.size, 2, none⟩) (by simp; omega)).trans c2
        replace r0 := (hb6.cell (p := ⟨w.heap.size + 1, 0, none⟩) (by simp; omega)).trans r0
        replace r1 := (hb6.cell (p := ⟨w.heap.size + 1, 1, none⟩) (by simp; omega)).trans r1
        replace r2 := (hb6.cell (p := ⟨w.heap.size + 1, 2, none⟩) (by simp; omega)).trans r2
        replace g0 := (hb6.frozen (p := ⟨w.heap.size + 1, 0, none⟩) (by simp; omega)).trans g0
        replace g1 := (hb6.frozen (p := ⟨w.heap.size + 1, 1, none⟩) (by simp; omega)).trans g1
        replace g2 := (hb6.frozen (p := ⟨w.heap.size + 1, 2, none⟩) (by simp; omega)).trans g2
        replace hbW := Lib.hid (hbW.out.trans (hb6.mono (by omega)))
        replace hzW := Nat.lt_of_lt_of_le hzW hb6.size
        have HR : Hid (((num y m 1 - 1 + mlen y m) - (wd (num y m 1 - 1 + mlen y m) - wk) % 7) < -719162 ∨ 2932896 < ((num y m 1 - 1 + mlen y m) - (wd (num y m 1 - 1 + mlen y m) - wk) % 7)) := Lib.hid (by omega)
        clear hr
        go_wp2_with (go_at_call 27; refine (between_f _ _ _ _ HR.out).mono ?_; rintro e w' ⟨rfl, rfl⟩)
        refine bodyPost_ret (v := .tuple #[.agg #[.int .i64 0, .int .i64 0, .int .i64 0], .int .i64 3]) (by simp [results, Try.results20, go_sem, r0, r1, r2]) rfl ⟨by rw [hv.out]; rfl, ?_⟩
        exact (((hbW.out.setCell (by simp) _).setCell (by simp) _).setCell (by simp) _)

theorem refOn_any (y m kind wk n : Int) (w : World) :
    Calls Try.prog 20 #[.int .i64 y, .int .i64 m, .agg #[.int .i64 kind, .int .i64 wk, .int .i64 n]] w fun e w' => e = .returned (.tuple #[dv (onV y m kind wk n).1, .int .i64 (onV y m kind wk n).2]) ∧ Below w.heap.size w w' := by
  by_cases h : formE y m kind wk n = 0
  · have hfm : (1 ≤ y ∧ y ≤ 9999) ∧ (1 ≤ m ∧ m ≤ 12) ∧ (1 ≤ kind ∧ kind ≤ 4) ∧ (0 ≤ wk ∧ wk ≤ 6) ∧ (kind = 1 → wk = 0) ∧ (kind = 2 → n = 0) ∧ (kind ≠ 2 → 1 ≤ n ∧ n ≤ mlen y m) := by
      unfold formE at h; split at h <;> (try split at h) <;> (try split at h) <;> (try split at h) <;> omega
    obtain ⟨hy, hm, hk, hw, hk1, hk2, hk3⟩ := hfm
    have h4 : kind = 1 ∨ kind = 2 ∨ kind = 3 ∨ kind = 4 := by omega
    rcases h4 with rfl | rfl | rfl | rfl
    · obtain rfl := hk1 rfl; exact refOn_1 y m n w hy hm (hk3 (by omega))
    · obtain rfl := hk2 rfl; exact refOn_2 y m wk w hy hm hw
    · exact refOn_3 y m wk n w hy hm hw (hk3 (by omega))
    · exact refOn_4 y m wk n w hy hm hw (hk3 (by omega))
  · exact refOn_no y m kind wk n w h

end Go.Proofs.Ytbbhpjnifeheiaa
