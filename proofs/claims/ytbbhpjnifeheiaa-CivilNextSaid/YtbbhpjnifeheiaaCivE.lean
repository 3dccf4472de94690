/-
  Contract of civil.On. No condition.
-/
import Derived.Test.YtbbhpjnifeheiaaCivD
set_option linter.unusedVariables false
set_option linter.unusedSimpArgs false
namespace Go.Proofs.Ytbbhpjnifeheiaa
open Go.RowKit Go.Sort Civ

theorem onDay_1 (y m _wk n : Int) : onDay y m 1 0 n = num y m 1 + n - 1 := by
  have : num y m n = num y m 1 + n - 1 := by unfold num; omega
  unfold onDay; simp [this]
theorem onDay_2 (y m wk _n : Int) : onDay y m 2 wk 0 = bwd (num y m 1 + mlen y m - 1) wk := by
  have : num y m (mlen y m) = num y m 1 + mlen y m - 1 := by unfold num; omega
  unfold onDay; simp [this]
theorem onDay_3 (y m wk n : Int) : onDay y m 3 wk n = fwd (num y m 1 + n - 1) wk := by
  have : num y m n = num y m 1 + n - 1 := by unfold num; omega
  unfold onDay; simp [this]
theorem onDay_4 (y m wk n : Int) : onDay y m 4 wk n = bwd (num y m 1 + n - 1) wk := by
  have : num y m n = num y m 1 + n - 1 := by unfold num; omega
  unfold onDay; simp [this]
theorem formE_bd (y m kind wk n : Int) : 0 ≤ formE y m kind wk n ∧ formE y m kind wk n ≤ 7 := by unfold formE; repeat' split
                                                                                                 all_goals omega

set_option maxHeartbeats 1000000 in
theorem on_no (y m kind wk n : Int) (w : World) (h : formE y m kind wk n ≠ 0) :
    Calls Try.prog 19 #[.int .i64 y, .int .i64 m, .agg #[.int .i64 kind, .int .i64 wk, .int .i64 n]] w fun e w' => e = .returned (.tuple #[dv (0, 0, 0), .int .i64 (formE y m kind wk n)]) ∧ Below w.heap.size w w' := by
  have hq : (formE y m kind wk n == 0) = false := by simpa using h
  go_enter Try.func19, Try.ntmps19
  go_wp2_with (go_step)
  generalize hW : (w.alloc (.cells #[.int .i64 kind, .int .i64 wk, .int .i64 n] 38)).alloc (.cells #[.int .i64 0, .int .i64 0, .int .i64 0] 23) = W
  have c0 : W.cell? ⟨w.heap.size, 0, none⟩ = some (.int .i64 kind) := by subst hW; simp
  have c1 : W.cell? ⟨w.heap.size, 1, none⟩ = some (.int .i64 wk) := by subst hW; simp
  have c2 : W.cell? ⟨w.heap.size, 2, none⟩ = some (.int .i64 n) := by subst hW; simp
  have r0 : W.cell? ⟨w.heap.size + 1, 0, none⟩ = some (.int .i64 0) := by subst hW; simp
  have r1 : W.cell? ⟨w.heap.size + 1, 1, none⟩ = some (.int .i64 0) := by subst hW; simp
  have r2 : W.cell? ⟨w.heap.size + 1, 2, none⟩ = some (.int .i64 0) := by subst hW; simp
  have g0 : W.frozen? ⟨w.heap.size + 1, 0, none⟩ = false := by subst hW; simp
  have g1 : W.frozen? ⟨w.heap.size + 1, 1, none⟩ = false := by subst hW; simp
  have g2 : W.frozen? ⟨w.heap.size + 1, 2, none⟩ = false := by subst hW; simp
  have hbW : Hid (Below w.heap.size w W) := Lib.hid (by subst hW; exact ((Below.refl _ _).alloc (Nat.le_refl _) _).alloc (by simp) _)
  have hzW : w.heap.size + 1 < W.heap.size := by subst hW; simp
  clear hW
  refine (form_any _ _ _ _ _ _).mono ?_
  rintro e w1 ⟨rfl, hb1⟩
  replace c0 := (hb1.cell (p := ⟨w.heap.size, 0, none⟩) (by simp; omega)).trans c0
  replace c1 := (hb1.cell (p := ⟨w.heap.size, 1, none⟩) (by simp; omega)).trans c1
  replace c2 := (hb1.cell (p := ⟨w.heap.size, 2, none⟩) (by simp; omega)).trans c2
  replace r0 := (hb1.cell (p := ⟨w.heap.size + 1, 0, none⟩) (by simp; omega)).trans r0
  replace r1 := (hb1.cell (p := ⟨w.heap.size + 1, 1, none⟩) (by simp; omega)).trans r1
  replace r2 := (hb1.cell (p := ⟨w.heap.size + 1, 2, none⟩) (by simp; omega)).trans r2
  replace g0 := (hb1.frozen (p := ⟨w.heap.size + 1, 0, none⟩) (by simp; omega)).trans g0
  replace g1 := (hb1.frozen (p := ⟨w.heap.size + 1, 1, none⟩) (by simp; omega)).trans g1
  replace g2 := (hb1.frozen (p := ⟨w.heap.size + 1, 2, none⟩) (by simp; omega)).trans g2
  replace hbW := Lib.hid (hbW.out.trans (hb1.mono (by omega)))
  replace hzW := Nat.lt_of_lt_of_le hzW hb1.size
  go_wp2_with fail
  refine bodyPost_ret (v := .tuple #[.agg #[.int .i64 0, .int .i64 0, .int .i64 0], .int .i64 (formE y m kind wk n)]) (by simp [results, Try.results19, go_sem, r0, r1, r2]) rfl ⟨rfl, ?_⟩
  exact (((hbW.out.setCell (by simp) _).setCell (by simp) _).setCell (by simp) _)

set_option maxHeartbeats 1000000 in
theorem on_1 (y m n : Int) (w : World) (hy : 1 ≤ y ∧ y ≤ 9999) (hm : 1 ≤ m ∧ m ≤ 12) (hn : 1 ≤ n ∧ n ≤ mlen y m) :
    Calls Try.prog 19 #[.int .i64 y, .int .i64 m, .agg #[.int .i64 1, .int .i64 0, .int .i64 n]] w fun e w' => e = .returned (.tuple #[dv (onV y m 1 0 n).1, .int .i64 (onV y m 1 0 n).2]) ∧ Below w.heap.size w w' := by
  have hml := mlen_bd y m
  have hnm : Hid (-719162 ≤ num y m 1 ∧ num y m 1 ≤ 2932896) := Lib.hid (num_bd (isDate_iff.2 ⟨hy.1, hy.2, hm.1, hm.2, by omega, by omega⟩))
  have hnb := hnm.out
  have hq : Hid (formE y m 1 0 n = 0) := Lib.hid (by unfold formE; rw [if_neg (by omega), if_neg (by omega), if_neg (by omega), if_neg (by omega)])
  go_enter Try.func19, Try.ntmps19
  go_wp2_with (go_step)
  generalize hW : (w.alloc (.cells #[.int .i64 1, .int .i64 0, .int .i64 n] 38)).alloc (.cells #[.int .i64 0, .int .i64 0, .int .i64 0] 23) = W
  have c0 : W.cell? ⟨w.heap.size, 0, none⟩ = some (.int .i64 1) := by subst hW; simp
  have c1 : W.cell? ⟨w.heap.size, 1, none⟩ = some (.int .i64 0) := by subst hW; simp
  have c2 : W.cell? ⟨w.heap.size, 2, none⟩ = some (.int .i64 n) := by subst hW; simp
  have r0 : W.cell? ⟨w.heap.size + 1, 0, none⟩ = some (.int .i64 0) := by subst hW; simp
  have r1 : W.cell? ⟨w.heap.size + 1, 1, none⟩ = some (.int .i64 0) := by subst hW; simp
  have r2 : W.cell? ⟨w.heap.size + 1, 2, none⟩ = some (.int .i64 0) := by subst hW; simp
  have g0 : W.frozen? ⟨w.heap.size + 1, 0, none⟩ = false := by subst hW; simp
  have g1 : W.frozen? ⟨w.heap.size + 1, 1, none⟩ = false := by subst hW; simp
  have g2 : W.frozen? ⟨w.heap.size + 1, 2, none⟩ = false := by subst hW; simp
  have hbW : Hid (Below w.heap.size w W) := Lib.hid (by subst hW; exact ((Below.refl _ _).alloc (Nat.le_refl _) _).alloc (by simp) _)
  have hzW : w.heap.size + 1 < W.heap.size := by subst hW; simp
  clear hW
  refine (form_any _ _ _ _ _ _).mono ?_
  rintro e w1 ⟨rfl, hb1⟩
  rw [hq.out]
  replace c0 := (hb1.cell (p := ⟨w.heap.size, 0, none⟩) (by simp; omega)).trans c0
  replace c1 := (hb1.cell (p := ⟨w.heap.size, 1, none⟩) (by simp; omega)).trans c1
  replace c2 := (hb1.cell (p := ⟨w.heap.size, 2, none⟩) (by simp; omega)).trans c2
  replace r0 := (hb1.cell (p := ⟨w.heap.size + 1, 0, none⟩) (by simp; omega)).trans r0
  replace r1 := (hb1.cell (p := ⟨w.heap.size + 1, 1, none⟩) (by simp; omega)).trans r1
  replace r2 := (hb1.cell (p := ⟨w.heap.size + 1, 2, none⟩) (by simp; omega)).trans r2
  replace g0 := (hb1.frozen (p := ⟨w.heap.size + 1, 0, none⟩) (by simp; omega)).trans g0
  replace g1 := (hb1.frozen (p := ⟨w.heap.size + 1, 1, none⟩) (by simp; omega)).trans g1
  replace g2 := (hb1.frozen (p := ⟨w.heap.size + 1, 2, none⟩) (by simp; omega)).trans g2
  replace hbW := Lib.hid (hbW.out.trans (hb1.mono (by omega)))
  replace hzW := Nat.lt_of_lt_of_le hzW hb1.size
  go_wp2_with fail
  refine (number_any _ _ _ _ (by omega) (by omega) (by omega) (by omega) (by omega) (by omega)).mono ?_
  rintro e w2 ⟨rfl, hb2⟩
  replace c0 := (hb2.cell (p := ⟨w.heap.size, 0, none⟩) (by simp; omega)).trans c0
  replace c1 := (hb2.cell (p := ⟨w.heap.size, 1, none⟩) (by simp; omega)).trans c1
  replace c2 := (hb2.cell (p := ⟨w.heap.size, 2, none⟩) (by simp; omega)).trans c2
  replace r0 := (hb2.cell (p := ⟨w.heap.size + 1, 0, none⟩) (by simp; omega)).trans r0
  replace r1 := (hb2.cell (p := ⟨w.heap.size + 1, 1, none⟩) (by simp; omega)).trans r1
  replace r2 := (hb2.cell (p := ⟨w.heap.size + 1, 2, none⟩) (by simp; omega)).trans r2
  replace g0 := (hb2.frozen (p := ⟨w.heap.size + 1, 0, none⟩) (by simp; omega)).trans g0
  replace g1 := (hb2.frozen (p := ⟨w.heap.size + 1, 1, none⟩) (by simp; omega)).trans g1
  replace g2 := (hb2.frozen (p := ⟨w.heap.size + 1, 2, none⟩) (by simp; omega)).trans g2
  replace hbW := Lib.hid (hbW.out.trans (hb2.mono (by omega)))
  replace hzW := Nat.lt_of_lt_of_le hzW hb2.size
  go_wp2_with fail
  by_cases hr : -719162 ≤ (num y m 1 + n - 1) ∧ (num y m 1 + n - 1) ≤ 2932896
  · have hv : Hid (onV y m 1 0 n = (dateOf ((num y m 1 + n - 1)), 0)) := Lib.hid (by unfold onV; rw [if_neg (by rw [hq.out]; simp)]; rw [onDay_1 y m 0 n, if_pos hr])
    have HR := Lib.hid hr; clear hr
    obtain ⟨y', m', d', hp⟩ : ∃ y' m' d', dateOf ((num y m 1 + n - 1)) = (y', m', d') := ⟨_, _, _, rfl⟩
    have HP := Lib.hid hp; clear hp
    refine (of_ok _ _ HR.out.1 HR.out.2).mono ?_
    rintro e w4 ⟨rfl, hb4⟩
    rw [HP.out]
    dsimp only [dv]
    replace c0 := (hb4.cell (p := ⟨w.heap.size, 0, none⟩) (by simp; omega)).trans c0
    replace c1 := (hb4.cell (p := ⟨w.heap.size, 1, none⟩) (by simp; omega)).trans c1
    replace c2 := (hb4.cell (p := ⟨w.heap.size, 2, none⟩) (by simp; omega)).trans c2
    replace r0 := (hb4.cell (p := ⟨w.heap.size + 1, 0, none⟩) (by simp; omega)).trans r0
    replace r1 := (hb4.cell (p := ⟨w.heap.size + 1, 1, none⟩) (by simp; omega)).trans r1
    replace r2 := (hb4.cell (p := ⟨w.heap.size + 1, 2, none⟩) (by simp; omega)).trans r2
    replace g0 := (hb4.frozen (p := ⟨w.heap.size + 1, 0, none⟩) (by simp; omega)).trans g0
    replace g1 := (hb4.frozen (p := ⟨w.heap.size + 1, 1, none⟩) (by simp; omega)).trans g1
    replace g2 := (hb4.frozen (p := ⟨w.heap.size + 1, 2, none⟩) (by simp; omega)).trans g2
    replace hbW := Lib.hid (hbW.out.trans (hb4.mono (by omega)))
    replace hzW := Nat.lt_of_lt_of_le hzW hb4.size
    go_wp2_with fail
    refine bodyPost_ret (v := .tuple #[.agg #[.int .i64 y', .int .i64 m', .int .i64 d'], .int .i64 0]) (by simp [results, Try.results19, go_sem, r0, r1, r2]) rfl ⟨by rw [hv.out, HP.out]; rfl, ?_⟩
    exact (((hbW.out.setCell (by simp) _).setCell (by simp) _).setCell (by simp) _)
  · have hv : Hid (onV y m 1 0 n = ((0, 0, 0), 3)) := Lib.hid (by unfold onV; rw [if_neg (by rw [hq.out]; simp)]; rw [onDay_1 y m 0 n, if_neg hr])
    have HR : Hid ((num y m 1 + n - 1) < -719162 ∨ 2932896 < (num y m 1 + n - 1)) := Lib.hid (by omega)
    clear hr
    refine (of_no _ _ HR.out).mono ?_
    rintro e w4 ⟨rfl, hb4⟩
    dsimp only [dv]
    replace c0 := (hb4.cell (p := ⟨w.heap.size, 0, none⟩) (by simp; omega)).trans c0
    replace c1 := (hb4.cell (p := ⟨w.heap.size, 1, none⟩) (by simp; omega)).trans c1
    replace c2 := (hb4.cell (p := ⟨w.heap.size, 2, none⟩) (by simp; omega)).trans c2
    replace r0 := (hb4.cell (p := ⟨w.heap.size + 1, 0, none⟩) (by simp; omega)).trans r0
    replace r1 := (hb4.cell (p := ⟨w.heap.size + 1, 1, none⟩) (by simp; omega)).trans r1
    replace r2 := (hb4.cell (p := ⟨w.heap.size + 1, 2, none⟩) (by simp; omega)).trans r2
    replace g0 := (hb4.frozen (p := ⟨w.heap.size + 1, 0, none⟩) (by simp; omega)).trans g0
    replace g1 := (hb4.frozen (p := ⟨w.heap.size + 1, 1, none⟩) (by simp; omega)).trans g1
    replace g2 := (hb4.frozen (p := ⟨w.heap.size + 1, 2, none⟩) (by simp; omega)).trans g2
    replace hbW := Lib.hid (hbW.out.trans (hb4.mono (by omega)))
    replace hzW := Nat.lt_of_lt_of_le hzW hb4.size
    go_wp2_with fail
    refine bodyPost_ret (v := .tuple #[.agg #[.int .i64 0, .int .i64 0, .int .i64 0], .int .i64 3]) (by simp [results, Try.results19, go_sem, r0, r1, r2]) rfl ⟨by rw [hv.out]; rfl, ?_⟩
    exact (((hbW.out.setCell (by simp) _).setCell (by simp) _).setCell (by simp) _)

set_option maxHeartbeats 1000000 in
theorem on_3 (y m wk n : Int) (w : World) (hy : 1 ≤ y ∧ y ≤ 9999) (hm : 1 ≤ m ∧ m ≤ 12) (hw : 0 ≤ wk ∧ wk ≤ 6) (hn : 1 ≤ n ∧ n ≤ mlen y m) :
    Calls Try.prog 19 #[.int .i64 y, .int .i64 m, .agg #[.int .i64 3, .int .i64 wk, .int .i64 n]] w fun e w' => e = .returned (.tuple #[dv (onV y m 3 wk n).1, .int .i64 (onV y m 3 wk n).2]) ∧ Below w.heap.size w w' := by
  have hml := mlen_bd y m
  have hnm : Hid (-719162 ≤ num y m 1 ∧ num y m 1 ≤ 2932896) := Lib.hid (num_bd (isDate_iff.2 ⟨hy.1, hy.2, hm.1, hm.2, by omega, by omega⟩))
  have hnb := hnm.out
  have hq : Hid (formE y m 3 wk n = 0) := Lib.hid (by unfold formE; rw [if_neg (by omega), if_neg (by omega), if_neg (by omega), if_neg (by omega)])
  go_enter Try.func19, Try.ntmps19
  go_wp2_with (go_step)
  generalize hW : (w.alloc (.cells #[.int .i64 3, .int .i64 wk, .int .i64 n] 38)).alloc (.cells #[.int .i64 0, .int .i64 0, .int .i64 0] 23) = W
  have c0 : W.cell? ⟨w.heap.size, 0, none⟩ = some (.int .i64 3) := by subst hW; simp
  have c1 : W.cell? ⟨w.heap.size, 1, none⟩ = some (.int .i64 wk) := by subst hW; simp
  have c2 : W.cell? ⟨w.heap.size, 2, none⟩ = some (.int .i64 n) := by subst hW; simp
  have r0 : W.cell? ⟨w.heap.size + 1, 0, none⟩ = some (.int .i64 0) := by subst hW; simp
  have r1 : W.cell? ⟨w.heap.size + 1, 1, none⟩ = some (.int .i64 0) := by subst hW; simp
  have r2 : W.cell? ⟨w.heap.size + 1, 2, none⟩ = some (.int .i64 0) := by subst hW; simp
  have g0 : W.frozen? ⟨w.heap.size + 1, 0, none⟩ = false := by subst hW; simp
  have g1 : W.frozen? ⟨w.heap.size + 1, 1, none⟩ = false := by subst hW; simp
  have g2 : W.frozen? ⟨w.heap.size + 1, 2, none⟩ = false := by subst hW; simp
  have hbW : Hid (Below w.heap.size w W) := Lib.hid (by subst hW; exact ((Below.refl _ _).alloc (Nat.le_refl _) _).alloc (by simp) _)
  have hzW : w.heap.size + 1 < W.heap.size := by subst hW; simp
  clear hW
  refine (form_any _ _ _ _ _ _).mono ?_
  rintro e w1 ⟨rfl, hb1⟩
  rw [hq.out]
  replace c0 := (hb1.cell (p := ⟨w.heap.size, 0, none⟩) (by simp; omega)).trans c0
  replace c1 := (hb1.cell (p := ⟨w.heap.size, 1, none⟩) (by simp; omega)).trans c1
  replace c2 := (hb1.cell (p := ⟨w.heap.size, 2, none⟩) (by simp; omega)).trans c2
  replace r0 := (hb1.cell (p := ⟨w.heap.size + 1, 0, none⟩) (by simp; omega)).trans r0
  replace r1 := (hb1.cell (p := ⟨w.heap.size + 1, 1, none⟩) (by simp; omega)).trans r1
  replace r2 := (hb1.cell (p := ⟨w.heap.size + 1, 2, none⟩) (by simp; omega)).trans r2
  replace g0 := (hb1.frozen (p := ⟨w.heap.size + 1, 0, none⟩) (by simp; omega)).trans g0
  replace g1 := (hb1.frozen (p := ⟨w.heap.size + 1, 1, none⟩) (by simp; omega)).trans g1
  replace g2 := (hb1.frozen (p := ⟨w.heap.size + 1, 2, none⟩) (by simp; omega)).trans g2
  replace hbW := Lib.hid (hbW.out.trans (hb1.mono (by omega)))
  replace hzW := Nat.lt_of_lt_of_le hzW hb1.size
  go_wp2_with fail
  refine (number_any _ _ _ _ (by omega) (by omega) (by omega) (by omega) (by omega) (by omega)).mono ?_
  rintro e w2 ⟨rfl, hb2⟩
  replace c0 := (hb2.cell (p := ⟨w.heap.size, 0, none⟩) (by simp; omega)).trans c0
  replace c1 := (hb2.cell (p := ⟨w.heap.size, 1, none⟩) (by simp; omega)).trans c1
  replace c2 := (hb2.cell (p := ⟨w.heap.size, 2, none⟩) (by simp; omega)).trans c2
  replace r0 := (hb2.cell (p := ⟨w.heap.size + 1, 0, none⟩) (by simp; omega)).trans r0
  replace r1 := (hb2.cell (p := ⟨w.heap.size + 1, 1, none⟩) (by simp; omega)).trans r1
  replace r2 := (hb2.cell (p := ⟨w.heap.size + 1, 2, none⟩) (by simp; omega)).trans r2
  replace g0 := (hb2.frozen (p := ⟨w.heap.size + 1, 0, none⟩) (by simp; omega)).trans g0
  replace g1 := (hb2.frozen (p := ⟨w.heap.size + 1, 1, none⟩) (by simp; omega)).trans g1
  replace g2 := (hb2.frozen (p := ⟨w.heap.size + 1, 2, none⟩) (by simp; omega)).trans g2
  replace hbW := Lib.hid (hbW.out.trans (hb2.mono (by omega)))
  replace hzW := Nat.lt_of_lt_of_le hzW hb2.size
  go_wp2_with fail
  refine (toward_fwd _ _ _ (by omega) (by omega) hw).mono ?_
  rintro e w3 ⟨rfl, rfl⟩
  go_wp2_with fail
  by_cases hr : -719162 ≤ (fwd (num y m 1 + n - 1) wk) ∧ (fwd (num y m 1 + n - 1) wk) ≤ 2932896
  · have hv : Hid (onV y m 3 wk n = (dateOf ((fwd (num y m 1 + n - 1) wk)), 0)) := Lib.hid (by unfold onV; rw [if_neg (by rw [hq.out]; simp)]; rw [onDay_3 y m wk n, if_pos hr])
    have HR := Lib.hid hr; clear hr
    obtain ⟨y', m', d', hp⟩ : ∃ y' m' d', dateOf ((fwd (num y m 1 + n - 1) wk)) = (y', m', d') := ⟨_, _, _, rfl⟩
    have HP := Lib.hid hp; clear hp
    refine (of_ok _ _ HR.out.1 HR.out.2).mono ?_
    rintro e w4 ⟨rfl, hb4⟩
    rw [HP.out]
    dsimp only [dv]
    replace c0 := (hb4.cell (p := ⟨w.heap.size, 0, none⟩) (by simp; omega)).trans c0
    replace c1 := (hb4.cell (p := ⟨w.heap.size, 1, none⟩) (by simp; omega)).trans c1
    replace c2 := (hb4.cell (p := ⟨w.heap.size, 2, none⟩) (by simp; omega)).trans c2
    replace r0 := (hb4.cell (p := ⟨w.heap.size + 1, 0, none⟩) (by simp; omega)).trans r0
    replace r1 := (hb4.cell (p := ⟨w.heap.size + 1, 1, none⟩) (by simp; omega)).trans r1
    replace r2 := (hb4.cell (p := ⟨w.heap.size + 1, 2, none⟩) (by simp; omega)).trans r2
    replace g0 := (hb4.frozen (p := ⟨w.heap.size + 1, 0, none⟩) (by simp; omega)).trans g0
    replace g1 := (hb4.frozen (p := ⟨w.heap.size + 1, 1, none⟩) (by simp; omega)).trans g1
    replace g2 := (hb4.frozen (p := ⟨w.heap.size + 1, 2, none⟩) (by simp; omega)).trans g2
    replace hbW := Lib.hid (hbW.out.trans (hb4.mono (by omega)))
    replace hzW := Nat.lt_of_lt_of_le hzW hb4.size
    go_wp2_with fail
    refine bodyPost_ret (v := .tuple #[.agg #[.int .i64 y', .int .i64 m', .int .i64 d'], .int .i64 0]) (by simp [results, Try.results19, go_sem, r0, r1, r2]) rfl ⟨by rw [hv.out, HP.out]; rfl, ?_⟩
    exact (((hbW.out.setCell (by simp) _).setCell (by simp) _).setCell (by simp) _)
  · have hv : Hid (onV y m 3 wk n = ((0, 0, 0), 3)) := Lib.hid (by unfold onV; rw [if_neg (by rw [hq.out]; simp)]; rw [onDay_3 y m wk n, if_neg hr])
    have HR : Hid ((fwd (num y m 1 + n - 1) wk) < -719162 ∨ 2932896 < (fwd (num y m 1 + n - 1) wk)) := Lib.hid (by omega)
    clear hr
    refine (of_no _ _ HR.out).mono ?_
    rintro e w4 ⟨rfl, hb4⟩
    dsimp only [dv]
    replace c0 := (hb4.cell (p := ⟨w.heap.size, 0, none⟩) (by simp; omega)).trans c0
    replace c1 := (hb4.cell (p := ⟨w.heap.size, 1, none⟩) (by simp; omega)).trans c1
    replace c2 := (hb4.cell (p := ⟨w.heap.size, 2, none⟩) (by simp; omega)).trans c2
    replace r0 := (hb4.cell (p := ⟨w.heap.size + 1, 0, none⟩) (by simp; omega)).trans r0
    replace r1 := (hb4.cell (p := ⟨w.heap.size + 1, 1, none⟩) (by simp; omega)).trans r1
    replace r2 := (hb4.cell (p := ⟨w.heap.size + 1, 2, none⟩) (by simp; omega)).trans r2
    replace g0 := (hb4.frozen (p := ⟨w.heap.size + 1, 0, none⟩) (by simp; omega)).trans g0
    replace g1 := (hb4.frozen (p := ⟨w.heap.size + 1, 1, none⟩) (by simp; omega)).trans g1
    replace g2 := (hb4.frozen (p := ⟨w.heap.size + 1, 2, none⟩) (by simp; omega)).trans g2
    replace hbW := Lib.hid (hbW.out.trans (hb4.mono (by omega)))
    replace hzW := Nat.lt_of_lt_of_le hzW hb4.size
    go_wp2_with fail
    refine bodyPost_ret (v := .tuple #[.agg #[.int .i64 0, .int .i64 0, .int .i64 0], .int .i64 3]) (by simp [results, Try.results19, go_sem, r0, r1, r2]) rfl ⟨by rw [hv.out]; rfl, ?_⟩
    exact (((hbW.out.setCell (by simp) _).setCell (by simp) _).setCell (by simp) _)

set_option maxHeartbeats 1000000 in
theorem on_4 (y m wk n : Int) (w : World) (hy : 1 ≤ y ∧ y ≤ 9999) (hm : 1 ≤ m ∧ m ≤ 12) (hw : 0 ≤ wk ∧ wk ≤ 6) (hn : 1 ≤ n ∧ n ≤ mlen y m) :
    Calls Try.prog 19 #[.int .i64 y, .int .i64 m, .agg #[.int .i64 4, .int .i64 wk, .int .i64 n]] w fun e w' => e = .returned (.tuple #[dv (onV y m 4 wk n).1, .int .i64 (onV y m 4 wk n).2]) ∧ Below w.heap.size w w' := by
  have hml := mlen_bd y m
  have hnm : Hid (-719162 ≤ num y m 1 ∧ num y m 1 ≤ 2932896) := Lib.hid (num_bd (isDate_iff.2 ⟨hy.1, hy.2, hm.1, hm.2, by omega, by omega⟩))
  have hnb := hnm.out
  have hq : Hid (formE y m 4 wk n = 0) := Lib.hid (by unfold formE; rw [if_neg (by omega), if_neg (by omega), if_neg (by omega), if_neg (by omega)])
  go_enter Try.func19, Try.ntmps19
  go_wp2_with (go_step)
  generalize hW : (w.alloc (.cells #[.int .i64 4, .int .i64 wk, .int .i64 n] 38)).alloc (.cells #[.int .i64 0, .int .i64 0, .int .i64 0] 23) = W
  have c0 : W.cell? ⟨w.heap.size, 0, none⟩ = some (.int .i64 4) := by subst hW; simp
  have c1 : W.cell? ⟨w.heap.size, 1, none⟩ = some (.int .i64 wk) := by subst hW; simp
  have c2 : W.cell? ⟨w.heap.size, 2, none⟩ = some (.int .i64 n) := by subst hW; simp
  have r0 : W.cell? ⟨w.heap.size + 1, 0, none⟩ = some (.int .i64 0) := by subst hW; simp
  have r1 : W.cell? ⟨w.heap.size + 1, 1, none⟩ = some (.int .i64 0) := by subst hW; simp
  have r2 : W.cell? ⟨w.heap.size + 1, 2, none⟩ = some (.int .i64 0) := by subst hW; simp
  have g0 : W.frozen? ⟨w.heap.size + 1, 0, none⟩ = false := by subst hW; simp
  have g1 : W.frozen? ⟨w.heap.size + 1, 1, none⟩ = false := by subst hW; simp
  have g2 : W.frozen? ⟨w.heap.size + 1, 2, none⟩ = false := by subst hW; simp
  have hbW : Hid (Below w.heap.size w W) := Lib.hid (by subst hW; exact ((Below.refl _ _).alloc (Nat.le_refl _) _).alloc (by simp) _)
  have hzW : w.heap.size + 1 < W.heap.size := by subst hW; simp
  clear hW
  refine (form_any _ _ _ _ _ _).mono ?_
  rintro e w1 ⟨rfl, hb1⟩
  rw [hq.out]
  replace c0 := (hb1.cell (p := ⟨w.heap.size, 0, none⟩) (by simp; omega)).trans c0
  replace c1 := (hb1.cell (p := ⟨w.heap.size, 1, none⟩) (by simp; omega)).trans c1
  replace c2 := (hb1.cell (p := ⟨w.heap.size, 2, none⟩) (by simp; omega)).trans c2
  replace r0 := (hb1.cell (p := ⟨w.heap.size + 1, 0, none⟩) (by simp; omega)).trans r0
  replace r1 := (hb1.cell (p := ⟨w.heap.size + 1, 1, none⟩) (by simp; omega)).trans r1
  replace r2 := (hb1.cell (p := ⟨w.heap.size + 1, 2, none⟩) (by simp; omega)).trans r2
  replace g0 := (hb1.frozen (p := ⟨w.heap.size + 1, 0, none⟩) (by simp; omega)).trans g0
  replace g1 := (hb1.frozen (p := ⟨w.heap.size + 1, 1, none⟩) (by simp; omega)).trans g1
  replace g2 := (hb1.frozen (p := ⟨w.heap.size + 1, 2, none⟩) (by simp; omega)).trans g2
  replace hbW := Lib.hid (hbW.out.trans (hb1.mono (by omega)))
  replace hzW := Nat.lt_of_lt_of_le hzW hb1.size
  go_wp2_with fail
  refine (number_any _ _ _ _ (by omega) (by omega) (by omega) (by omega) (by omega) (by omega)).mono ?_
  rintro e w2 ⟨rfl, hb2⟩
  replace c0 := (hb2.cell (p := ⟨w.heap.size, 0, none⟩) (by simp; omega)).trans c0
  replace c1 := (hb2.cell (p := ⟨w.heap.size, 1, none⟩) (by simp; omega)).trans c1
  replace c2 := (hb2.cell (p := ⟨w.heap.size, 2, none⟩) (by simp; omega)).trans c2
  replace r0 := (hb2.cell (p := ⟨w.heap.size + 1, 0, none⟩) (by simp; omega)).trans r0
  replace r1 := (hb2.cell (p := ⟨w.heap.size + 1, 1, none⟩) (by simp; omega)).trans r1
  replace r2 := (hb2.cell (p := ⟨w.heap.size + 1, 2, none⟩) (by simp; omega)).trans r2
  replace g0 := (hb2.frozen (p := ⟨w.heap.size + 1, 0, none⟩) (by simp; omega)).trans g0
  replace g1 := (hb2.frozen (p := ⟨w.heap.size + 1, 1, none⟩) (by simp; omega)).trans g1
  replace g2 := (hb2.frozen (p := ⟨w.heap.size + 1, 2, none⟩) (by simp; omega)).trans g2
  replace hbW := Lib.hid (hbW.out.trans (hb2.mono (by omega)))
  replace hzW := Nat.lt_of_lt_of_le hzW hb2.size
  go_wp2_with fail
  refine (toward_bwd _ _ _ (by omega) (by omega) hw).mono ?_
  rintro e w3 ⟨rfl, rfl⟩
  go_wp2_with fail
  by_cases hr : -719162 ≤ (bwd (num y m 1 + n - 1) wk) ∧ (bwd (num y m 1 + n - 1) wk) ≤ 2932896
  · have hv : Hid (onV y m 4 wk n = (dateOf ((bwd (num y m 1 + n - 1) wk)), 0)) := Lib.hid (by unfold onV; rw [if_neg (by rw [hq.out]; simp)]; rw [onDay_4 y m wk n, if_pos hr])
    have HR := Lib.hid hr; clear hr
    obtain ⟨y', m', d', hp⟩ : ∃ y' m' d', dateOf ((bwd (num y m 1 + n - 1) wk)) = (y', m', d') := ⟨_, _, _, rfl⟩
    have HP := Lib.hid hp; clear hp
    refine (of_ok _ _ HR.out.1 HR.out.2).mono ?_
    rintro e w4 ⟨rfl, hb4⟩
    rw [HP.out]
    dsimp only [dv]
    replace c0 := (hb4.cell (p := ⟨w.heap.size, 0, none⟩) (by simp; omega)).trans c0
    replace c1 := (hb4.cell (p := ⟨w.heap.size, 1, none⟩) (by simp; omega)).trans c1
    replace c2 := (hb4.cell (p := ⟨w.heap.size, 2, none⟩) (by simp; omega)).trans c2
    replace r0 := (hb4.cell (p := ⟨w.heap.size + 1, 0, none⟩) (by simp; omega)).trans r0
    replace r1 := (hb4.cell (p := ⟨w.heap.size + 1, 1, none⟩) (by simp; omega)).trans r1
    replace r2 := (hb4.cell (p := ⟨w.heap.size + 1, 2, none⟩) (by simp; omega)).trans r2
    replace g0 := (hb4.frozen (p := ⟨w.heap.size + 1, 0, none⟩) (by simp; omega)).trans g0
    replace g1 := (hb4.frozen (p := ⟨w.heap.size + 1, 1, none⟩) (by simp; omega)).trans g1
    replace g2 := (hb4.frozen (p := ⟨w.heap.size + 1, 2, none⟩) (by simp; omega)).trans g2
    replace hbW := Lib.hid (hbW.out.trans (hb4.mono (by omega)))
    replace hzW := Nat.lt_of_lt_of_le hzW hb4.size
    go_wp2_with fail
    refine bodyPost_ret (v := .tuple #[.agg #[.int .i64 y', .int .i64 m', .int .i64 d'], .int .i64 0]) (by simp [results, Try.results19, go_sem, r0, r1, r2]) rfl ⟨by rw [hv.out, HP.out]; rfl, ?_⟩
    exact (((hbW.out.setCell (by simp) _).setCell (by simp) _).setCell (by simp) _)
  · have hv : Hid (onV y m 4 wk n = ((0, 0, 0), 3)) := Lib.hid (by unfold onV; rw [if_neg (by rw [hq.out]; simp)]; rw [onDay_4 y m wk n, if_neg hr])
    have HR : Hid ((bwd (num y m 1 + n - 1) wk) < -719162 ∨ 2932896 < (bwd (num y m 1 + n - 1) wk)) := Lib.hid (by omega)
    clear hr
    refine (of_no _ _ HR.out).mono ?_
    rintro e w4 ⟨rfl, hb4⟩
    dsimp only [dv]
    replace c0 := (hb4.cell (p := ⟨w.heap.size, 0, none⟩) (by simp; omega)).trans c0
    replace c1 := (hb4.cell (p := ⟨w.heap.size, 1, none⟩) (by simp; omega)).trans c1
    replace c2 := (hb4.cell (p := ⟨w.heap.size, 2, none⟩) (by simp; omega)).trans c2
    replace r0 := (hb4.cell (p := ⟨w.heap.size + 1, 0, none⟩) (by simp; omega)).trans r0
    replace r1 := (hb4.cell (p := ⟨w.heap.size + 1, 1, none⟩) (by simp; omega)).trans r1
    replace r2 := (hb4.cell (p := ⟨w.heap.size + 1, 2, none⟩) (by simp; omega)).trans r2
    replace g0 := (hb4.frozen (p := ⟨w.heap.size + 1, 0, none⟩) (by simp; omega)).trans g0
    replace g1 := (hb4.frozen (p := ⟨w.heap.size + 1, 1, none⟩) (by simp; omega)).trans g1
    replace g2 := (hb4.frozen (p := ⟨w.heap.size + 1, 2, none⟩) (by simp; omega)).trans g2
    replace hbW := Lib.hid (hbW.out.trans (hb4.mono (by omega)))
    replace hzW := Nat.lt_of_lt_of_le hzW hb4.size
    go_wp2_with fail
    refine bodyPost_ret (v := .tuple #[.agg #[.int .i64 0, .int .i64 0, .int .i64 0], .int .i64 3]) (by simp [results, Try.results19, go_sem, r0, r1, r2]) rfl ⟨by rw [hv.out]; rfl, ?_⟩
    exact (((hbW.out.setCell (by simp) _).setCell (by simp) _).setCell (by simp) _)

set_option maxHeartbeats 1000000 in
theorem on_2 (y m wk : Int) (w : World) (hy : 1 ≤ y ∧ y ≤ 9999) (hm : 1 ≤ m ∧ m ≤ 12) (hw : 0 ≤ wk ∧ wk ≤ 6) :
    Calls Try.prog 19 #[.int .i64 y, .int .i64 m, .agg #[.int .i64 2, .int .i64 wk, .int .i64 0]] w fun e w' => e = .returned (.tuple #[dv (onV y m 2 wk 0).1, .int .i64 (onV y m 2 wk 0).2]) ∧ Below w.heap.size w w' := by
  have hml := mlen_bd y m
  have hnm : Hid (-719162 ≤ num y m 1 ∧ num y m 1 ≤ 2932896) := Lib.hid (num_bd (isDate_iff.2 ⟨hy.1, hy.2, hm.1, hm.2, by omega, by omega⟩))
  have hnb := hnm.out
  have hq : Hid (formE y m 2 wk 0 = 0) := Lib.hid (by unfold formE; rw [if_neg (by omega), if_neg (by omega), if_neg (by omega), if_neg (by omega)])
  go_enter Try.func19, Try.ntmps19
  go_wp2_with (go_step)
  generalize hW : (w.alloc (.cells #[.int .i64 2, .int .i64 wk, .int .i64 0] 38)).alloc (.cells #[.int .i64 0, .int .i64 0, .int .i64 0] 23) = W
  have c0 : W.cell? ⟨w.heap.size, 0, none⟩ = some (.int .i64 2) := by subst hW; simp
  have c1 : W.cell? ⟨w.heap.size, 1, none⟩ = some (.int .i64 wk) := by subst hW; simp
  have c2 : W.cell? ⟨w.heap.size, 2, none⟩ = some (.int .i64 0) := by subst hW; simp
  have r0 : W.cell? ⟨w.heap.size + 1, 0, none⟩ = some (.int .i64 0) := by subst hW; simp
  have r1 : W.cell? ⟨w.heap.size + 1, 1, none⟩ = some (.int .i64 0) := by subst hW; simp
  have r2 : W.cell? ⟨w.heap.size + 1, 2, none⟩ = some (.int .i64 0) := by subst hW; simp
  have g0 : W.frozen? ⟨w.heap.size + 1, 0, none⟩ = false := by subst hW; simp
  have g1 : W.frozen? ⟨w.heap.size + 1, 1, none⟩ = false := by subst hW; simp
  have g2 : W.frozen? ⟨w.heap.size + 1, 2, none⟩ = false := by subst hW; simp
  have hbW : Hid (Below w.heap.size w W) := Lib.hid (by subst hW; exact ((Below.refl _ _).alloc (Nat.le_refl _) _).alloc (by simp) _)
  have hzW : w.heap.size + 1 < W.heap.size := by subst hW; simp
  clear hW
  refine (form_any _ _ _ _ _ _).mono ?_
  rintro e w1 ⟨rfl, hb1⟩
  rw [hq.out]
  replace c0 := (hb1.cell (p := ⟨w.heap.size, 0, none⟩) (by simp; omega)).trans c0
  replace c1 := (hb1.cell (p := ⟨w.heap.size, 1, none⟩) (by simp; omega)).trans c1
  replace c2 := (hb1.cell (p := ⟨w.heap.size, 2, none⟩) (by simp; omega)).trans c2
  replace r0 := (hb1.cell (p := ⟨w.heap.size + 1, 0, none⟩) (by simp; omega)).trans r0
  replace r1 := (hb1.cell (p := ⟨w.heap.size + 1, 1, none⟩) (by simp; omega)).trans r1
  replace r2 := (hb1.cell (p := ⟨w.heap.size + 1, 2, none⟩) (by simp; omega)).trans r2
  replace g0 := (hb1.frozen (p := ⟨w.heap.size + 1, 0, none⟩) (by simp; omega)).trans g0
  replace g1 := (hb1.frozen (p := ⟨w.heap.size + 1, 1, none⟩) (by simp; omega)).trans g1
  replace g2 := (hb1.frozen (p := ⟨w.heap.size + 1, 2, none⟩) (by simp; omega)).trans g2
  replace hbW := Lib.hid (hbW.out.trans (hb1.mono (by omega)))
  replace hzW := Nat.lt_of_lt_of_le hzW hb1.size
  go_wp2_with fail
  refine (number_any _ _ _ _ (by omega) (by omega) (by omega) (by omega) (by omega) (by omega)).mono ?_
  rintro e w2 ⟨rfl, hb2⟩
  replace c0 := (hb2.cell (p := ⟨w.heap.size, 0, none⟩) (by simp; omega)).trans c0
  replace c1 := (hb2.cell (p := ⟨w.heap.size, 1, none⟩) (by simp; omega)).trans c1
  replace c2 := (hb2.cell (p := ⟨w.heap.size, 2, none⟩) (by simp; omega)).trans c2
  replace r0 := (hb2.cell (p := ⟨w.heap.size + 1, 0, none⟩) (by simp; omega)).trans r0
  replace r1 := (hb2.cell (p := ⟨w.heap.size + 1, 1, none⟩) (by simp; omega)).trans r1
  replace r2 := (hb2.cell (p := ⟨w.heap.size + 1, 2, none⟩) (by simp; omega)).trans r2
  replace g0 := (hb2.frozen (p := ⟨w.heap.size + 1, 0, none⟩) (by simp; omega)).trans g0
  replace g1 := (hb2.frozen (p := ⟨w.heap.size + 1, 1, none⟩) (by simp; omega)).trans g1
  replace g2 := (hb2.frozen (p := ⟨w.heap.size + 1, 2, none⟩) (by simp; omega)).trans g2
  replace hbW := Lib.hid (hbW.out.trans (hb2.mono (by omega)))
  replace hzW := Nat.lt_of_lt_of_le hzW hb2.size
  go_wp2_with fail
  have k0 := cell_regrown c0
  have k1 := cell_regrown c1
  have k2 := cell_regrown c2
  refine wp_region_quiet_below (by kernel_rfl) (by kernel_rfl) ?_
  repeat (go_big_quiet_step (first | (go_at_call 31; exact Calls.regrown_of (length_any _ _ _ (by omega) (by omega) (by omega))) | (go_at_call 30; exact Calls.regrown_of (Calls.bel (toward_bwd _ _ _ (by omega) (by omega) hw)))))
  refine wpQuiet_nil ?_
  intro _ hw'
  obtain ⟨⟨dq, osq⟩, hw''⟩ := hw'
  subst hw''
  have hb3 := below_regrown w2 dq osq
  generalize grow (redrawn w2 dq) osq = w3 at hb3 ⊢
  clear k0 k1 k2
  replace c0 := (hb3.cell (p := ⟨w.heap.size, 0, none⟩) (by simp; omega)).trans c0
  replace c1 := (hb3.cell (p := ⟨w.heap.size, 1, none⟩) (by simp; omega)).trans c1
  replace c2 := (hb3.cell (p := ⟨w.heap.size, 2, none⟩) (by simp; omega)).trans c2
  replace r0 := (hb3.cell (p := ⟨w.heap.size + 1, 0, none⟩) (by simp; omega)).trans r0
  replace r1 := (hb3.cell (p := ⟨w.heap.size + 1, 1, none⟩) (by simp; omega)).trans r1
  replace r2 := (hb3.cell (p := ⟨w.heap.size + 1, 2, none⟩) (by simp; omega)).trans r2
  replace g0 := (hb3.frozen (p := ⟨w.heap.size + 1, 0, none⟩) (by simp; omega)).trans g0
  replace g1 := (hb3.frozen (p := ⟨w.heap.size + 1, 1, none⟩) (by simp; omega)).trans g1
  replace g2 := (hb3.frozen (p := ⟨w.heap.size + 1, 2, none⟩) (by simp; omega)).trans g2
  replace hbW := Lib.hid (hbW.out.trans (hb3.mono (by omega)))
  replace hzW := Nat.lt_of_lt_of_le hzW hb3.size
  go_wp2_with fail
  by_cases hr : -719162 ≤ (bwd (num y m 1 + mlen y m - 1) wk) ∧ (bwd (num y m 1 + mlen y m - 1) wk) ≤ 2932896
  · have hv : Hid (onV y m 2 wk 0 = (dateOf ((bwd (num y m 1 + mlen y m - 1) wk)), 0)) := Lib.hid (by unfold onV; rw [if_neg (by rw [hq.out]; simp)]; rw [onDay_2 y m wk 0, if_pos hr])
    have HR := Lib.hid hr; clear hr
    obtain ⟨y', m', d', hp⟩ : ∃ y' m' d', dateOf ((bwd (num y m 1 + mlen y m - 1) wk)) = (y', m', d') := ⟨_, _, _, rfl⟩
    have HP := Lib.hid hp; clear hp
    refine (of_ok _ _ HR.out.1 HR.out.2).mono ?_
    rintro e w4 ⟨rfl, hb4⟩
    rw [HP.out]
    dsimp only [dv]
    replace c0 := (hb4.cell (p := ⟨w.heap.size, 0, none⟩) (by simp; omega)).trans c0
    replace c1 := (hb4.cell (p := ⟨w.heap.size, 1, none⟩) (by simp; omega)).trans c1
    replace c2 := (hb4.cell (p := ⟨w.heap.size, 2, none⟩) (by simp; omega)).trans c2
    replace r0 := (hb4.cell (p := ⟨w.heap.size + 1, 0, none⟩) (by simp; omega)).trans r0
    replace r1 := (hb4.cell (p := ⟨w.heap.size + 1, 1, none⟩) (by simp; omega)).trans r1
    replace r2 := (hb4.cell (p := ⟨w.heap.size + 1, 2, none⟩) (by simp; omega)).trans r2
    replace g0 := (hb4.frozen (p := ⟨w.heap.size + 1, 0, none⟩) (by simp; omega)).trans g0
    replace g1 := (hb4.frozen (p := ⟨w.heap.size + 1, 1, none⟩) (by simp; omega)).trans g1
    replace g2 := (hb4.frozen (p := ⟨w.heap.size + 1, 2, none⟩) (by simp; omega)).trans g2
    replace hbW := Lib.hid (hbW.out.trans (hb4.mono (by omega)))
    replace hzW := Nat.lt_of_lt_of_le hzW hb4.size
    go_wp2_with fail
    refine bodyPost_ret (v := .tuple #[.agg #[.int .i64 y', .int .i64 m', .int .i64 d'], .int .i64 0]) (by simp [results, Try.results19, go_sem, r0, r1, r2]) rfl ⟨by rw [hv.out, HP.out]; rfl, ?_⟩
    exact (((hbW.out.setCell (by simp) _).setCell (by simp) _).setCell (by simp) _)
  · have hv : Hid (onV y m 2 wk 0 = ((0, 0, 0), 3)) := Lib.hid (by unfold onV; rw [if_neg (by rw [hq.out]; simp)]; rw [onDay_2 y m wk 0, if_neg hr])
    have HR : Hid ((bwd (num y m 1 + mlen y m - 1) wk) < -719162 ∨ 2932896 < (bwd (num y m 1 + mlen y m - 1) wk)) := Lib.hid (by omega)
    clear hr
    refine (of_no _ _ HR.out).mono ?_
    rintro e w4 ⟨rfl, hb4⟩
    dsimp only [dv]
    replace c0 := (hb4.cell (p := ⟨w.heap.size, 0, none⟩) (by simp; omega)).trans c0
    replace c1 := (hb4.cell (p := ⟨w.heap.size, 1, none⟩) (by simp; omega)).trans c1
    replace c2 := (hb4.cell (p := ⟨w.heap.size, 2, none⟩) (by simp; omega)).trans c2
    replace r0 := (hb4.cell (p := ⟨w.heap.size + 1, 0, none⟩) (by simp; omega)).trans r0
    replace r1 := (hb4.cell (p := ⟨w.heap.size + 1, 1, none⟩) (by simp; omega)).trans r1
    replace r2 := (hb4.cell (p := ⟨w.heap.size + 1, 2, none⟩) (by simp; omega)).trans r2
    replace g0 := (hb4.frozen (p := ⟨w.heap.size + 1, 0, none⟩) (by simp; omega)).trans g0
    replace g1 := (hb4.frozen (p := ⟨w.heap.size + 1, 1, none⟩) (by simp; omega)).trans g1
    replace g2 := (hb4.frozen (p := ⟨w.heap.size + 1, 2, none⟩) (by simp; omega)).trans g2
    replace hbW := Lib.hid (hbW.out.trans (hb4.mono (by omega)))
    replace hzW := Nat.lt_of_lt_of_le hzW hb4.size
    go_wp2_with fail
    refine bodyPost_ret (v := .tuple #[.agg #[.int .i64 0, .int .i64 0, .int .i64 0], .int .i64 3]) (by simp [results, Try.results19, go_sem, r0, r1, r2]) rfl ⟨by rw [hv.out]; rfl, ?_⟩
    exact (((hbW.out.setCell (by simp) _).setCell (by simp) _).setCell (by simp) _)

theorem on_ok (y m kind wk n : Int) (w : World) (h : formE y m kind wk n = 0) :
    Calls Try.prog 19 #[.int .i64 y, .int .i64 m, .agg #[.int .i64 kind, .int .i64 wk, .int .i64 n]] w fun e w' => e = .returned (.tuple #[dv (onV y m kind wk n).1, .int .i64 (onV y m kind wk n).2]) ∧ Below w.heap.size w w' := by
  have hfm : (1 ≤ y ∧ y ≤ 9999) ∧ (1 ≤ m ∧ m ≤ 12) ∧ (1 ≤ kind ∧ kind ≤ 4) ∧ (0 ≤ wk ∧ wk ≤ 6) ∧ (kind = 1 → wk = 0) ∧ (kind = 2 → n = 0) ∧ (kind ≠ 2 → 1 ≤ n ∧ n ≤ mlen y m) := by
    unfold formE at h; split at h <;> (try split at h) <;> (try split at h) <;> (try split at h) <;> omega
  obtain ⟨hy, hm, hk, hw, hk1, hk2, hk3⟩ := hfm
  have h4 : kind = 1 ∨ kind = 2 ∨ kind = 3 ∨ kind = 4 := by omega
  rcases h4 with rfl | rfl | rfl | rfl
  · obtain rfl := hk1 rfl; exact on_1 y m n w hy hm (hk3 (by omega))
  · obtain rfl := hk2 rfl; exact on_2 y m wk w hy hm hw
  · exact on_3 y m wk n w hy hm hw (hk3 (by omega))
  · exact on_4 y m wk n w hy hm hw (hk3 (by omega))

theorem on_any (y m kind wk n : Int) (w : World) :
    Calls Try.prog 19 #[.int .i64 y, .int .i64 m, .agg #[.int .i64 kind, .int .i64 wk, .int .i64 n]] w fun e w' => e = .returned (.tuple #[dv (onV y m kind wk n).1, .int .i64 (onV y m kind wk n).2]) ∧ Below w.heap.size w w' := by
  by_cases h : formE y m kind wk n = 0
  · exact on_ok y m kind wk n w h
  · have := on_no y m kind wk n w h
    have e : onV y m kind wk n = ((0, 0, 0), formE y m kind wk n) := by unfold onV; rw [if_pos h]
    rw [e]; exact this

end Go.Proofs.Ytbbhpjnifeheiaa
