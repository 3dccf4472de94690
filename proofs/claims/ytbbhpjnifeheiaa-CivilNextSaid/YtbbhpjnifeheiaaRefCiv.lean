/-
  Contracts of the reference's functions on days. Conditions: those that each theorem names.
-/
import Derived.Test.YtbbhpjnifeheiaaCivE
set_option linter.unusedVariables false
set_option linter.unusedSimpArgs false
namespace Go.Proofs.Ytbbhpjnifeheiaa
open Go.RowKit Go.Sort Civ

set_option maxHeartbeats 400000 in
theorem between_any (n a b : Int) (w : World) :
    Calls Try.prog 27 #[.int .i64 n, .int .i64 a, .int .i64 b] w fun e w' => e = .returned (.bool (wi n a b)) ∧ w = w' := by
  by_cases h : a ≤ n
  all_goals
    go_enter Try.func27, Try.ntmps27
    go_wp2
    go_ret
    refine ⟨ret_bool (by rw [Bool.eq_iff_iff]; unfold wi; simp; omega), rfl⟩
theorem between_t (n a b : Int) (w : World) (h : a ≤ n ∧ n ≤ b) :
    Calls Try.prog 27 #[.int .i64 n, .int .i64 a, .int .i64 b] w fun e w' => e = .returned (.bool true) ∧ w = w' := by
  have := between_any n a b w; rw [wi_t h] at this; exact this
theorem between_f (n a b : Int) (w : World) (h : n < a ∨ b < n) :
    Calls Try.prog 27 #[.int .i64 n, .int .i64 a, .int .i64 b] w fun e w' => e = .returned (.bool false) ∧ w = w' := by
  have := between_any n a b w; rw [wi_f h] at this; exact this

set_option maxHeartbeats 400000 in
theorem isLeap_any (y : Int) (w : World) (h0 : 0 ≤ y) :
    Calls Try.prog 34 #[.int .i64 y] w fun e w' => e = .returned (.bool (leapB y)) ∧ w = w' := by
  by_cases h : y % 400 = 0
  · have H : Hid (leapB y = true) := Lib.hid (by unfold leapB; simp [h]; omega)
    go_enter Try.func34, Try.ntmps34
    go_wp2
    go_ret
    exact ⟨ret_bool H.out.symm, rfl⟩
  · by_cases h1 : y % 4 = 0
    · have H : Hid (leapB y = (y % 100 != 0)) := Lib.hid (by unfold leapB; simp [h, h1])
      go_enter Try.func34, Try.ntmps34
      go_wp2
      go_ret
      exact ⟨ret_bool (by rw [H.out]; simp; try omega), rfl⟩
    · have H : Hid (leapB y = false) := Lib.hid (by unfold leapB; simp [h1])
      go_enter Try.func34, Try.ntmps34
      go_wp2
      go_ret
      exact ⟨ret_bool (by rw [H.out]; simp; try omega), rfl⟩

set_option maxHeartbeats 1000000 in
theorem monthLength_any (y m : Int) (w : World) (h0 : 0 ≤ y) :
    Calls Try.prog 28 #[.int .i64 y, .int .i64 m] w fun e w' => e = .returned (.int .i64 (mlen y m)) ∧ w = w' := by
  by_cases hm : m = 4 ∨ m = 6 ∨ m = 9 ∨ m = 11
  · rcases hm with rfl | rfl | rfl | rfl
    all_goals
      go_enter Try.func28, Try.ntmps28
      go_wp2
      go_ret
      exact ⟨ret_int (by simp [mlen]), rfl⟩
  · by_cases h2 : m = 2
    · subst h2
      cases hl : leapB y
      all_goals
        have H := Lib.hid hl; clear hl
        go_enter Try.func28, Try.ntmps28
        go_wp2_with (go_at_call 34; refine (isLeap_any _ _ h0).mono ?_; rintro e w' ⟨rfl, rfl⟩; rw [H.out])
        go_ret
        refine ⟨ret_int (by simp [mlen, lp, H.out]), rfl⟩
    · have H : Hid (mlen y m = 31) := Lib.hid (by unfold mlen; simp only [if_neg h2]; rw [if_neg (by omega), if_neg (by omega), if_neg (by omega), if_neg (by omega)])
      have q2 : (m == 2) = false := by simpa using h2
      have q4 : (m == 4) = false := by rw [beq_eq_false_iff_ne]; omega
      have q6 : (m == 6) = false := by rw [beq_eq_false_iff_ne]; omega
      have q9 : (m == 9) = false := by rw [beq_eq_false_iff_ne]; omega
      have qb : (m == 11) = false := by rw [beq_eq_false_iff_ne]; omega
      go_enter Try.func28, Try.ntmps28
      go_wp2
      go_ret
      exact ⟨ret_int H.out.symm, rfl⟩

set_option maxHeartbeats 1000000 in
theorem isDate_any (y m d : Int) (w : World) :
    Calls Try.prog 13 #[.agg #[.int .i64 y, .int .i64 m, .int .i64 d]] w fun e w' => e = .returned (.bool (isDate y m d)) ∧ Below w.heap.size w w' := by
  by_cases hy : 1 ≤ y ∧ y ≤ 9999
  · by_cases hm : 1 ≤ m ∧ m ≤ 12
    · have hi : Hid (isDate y m d = wi d 1 (mlen y m)) := Lib.hid (by unfold isDate wi; simp [hy, hm])
      go_enter Try.func13, Try.ntmps13
      go_wp2_with fail
      generalize hW : w.alloc (.cells #[.int .i64 y, .int .i64 m, .int .i64 d] 23) = W
      have c0 : W.cell? ⟨w.heap.size, 0, none⟩ = some (.int .i64 y) := by subst hW; simp
      have c1 : W.cell? ⟨w.heap.size, 1, none⟩ = some (.int .i64 m) := by subst hW; simp
      have c2 : W.cell? ⟨w.heap.size, 2, none⟩ = some (.int .i64 d) := by subst hW; simp
      have g0 : W.frozen? ⟨w.heap.size, 0, none⟩ = false := by subst hW; simp
      have g1 : W.frozen? ⟨w.heap.size, 1, none⟩ = false := by subst hW; simp
      have g2 : W.frozen? ⟨w.heap.size, 2, none⟩ = false := by subst hW; simp
      have hbW : Hid (Below w.heap.size w W) := Lib.hid (by subst hW; exact (Below.refl _ _).alloc (Nat.le_refl _) _)
      have hzW : w.heap.size < W.heap.size := by subst hW; simp
      clear hW
      have k0 := cell_regrown c0
      have k1 := cell_regrown c1
      have k2 := cell_regrown c2
      refine wp_region_quiet_below (by kernel_rfl) (by kernel_rfl) ?_
      repeat (go_big_quiet_step (first | (go_at_call 27; exact Calls.regrown_of (Calls.bel (between_t _ _ _ _ (by omega)))) | (go_at_call 27; exact Calls.regrown_of (Calls.bel (between_any _ _ _ _))) | (go_at_call 28; exact Calls.regrown_of (Calls.bel (monthLength_any _ _ _ (by omega))))))
      refine wpQuiet_nil ?_
      intro _ hw'
      obtain ⟨⟨dq, osq⟩, hw''⟩ := hw'
      subst hw''
      go_wp2
      go_ret
      exact ⟨ret_bool hi.out.symm, hbW.out.trans ((below_regrown W dq osq).mono hbW.out.size)⟩
    · have hm' : m < 1 ∨ 12 < m := by omega
      have hi : Hid (isDate y m d = false) := Lib.hid (by unfold isDate; simp; omega)
      go_enter Try.func13, Try.ntmps13
      go_wp2_with fail
      generalize hW : w.alloc (.cells #[.int .i64 y, .int .i64 m, .int .i64 d] 23) = W
      have c0 : W.cell? ⟨w.heap.size, 0, none⟩ = some (.int .i64 y) := by subst hW; simp
      have c1 : W.cell? ⟨w.heap.size, 1, none⟩ = some (.int .i64 m) := by subst hW; simp
      have c2 : W.cell? ⟨w.heap.size, 2, none⟩ = some (.int .i64 d) := by subst hW; simp
      have g0 : W.frozen? ⟨w.heap.size, 0, none⟩ = false := by subst hW; simp
      have g1 : W.frozen? ⟨w.heap.size, 1, none⟩ = false := by subst hW; simp
      have g2 : W.frozen? ⟨w.heap.size, 2, none⟩ = false := by subst hW; simp
      have hbW : Hid (Below w.heap.size w W) := Lib.hid (by subst hW; exact (Below.refl _ _).alloc (Nat.le_refl _) _)
      have hzW : w.heap.size < W.heap.size := by subst hW; simp
      clear hW
      have k0 := cell_regrown c0
      have k1 := cell_regrown c1
      have k2 := cell_regrown c2
      refine wp_region_quiet_below (by kernel_rfl) (by kernel_rfl) ?_
      repeat (go_big_quiet_step (first | (go_at_call 27; exact Calls.regrown_of (Calls.bel (between_t _ _ _ _ (by omega)))) | (go_at_call 27; exact Calls.regrown_of (Calls.bel (between_f _ _ _ _ hm')))))
      refine wpQuiet_nil ?_
      intro _ hw'
      obtain ⟨⟨dq, osq⟩, hw''⟩ := hw'
      subst hw''
      go_wp2
      go_ret
      exact ⟨ret_bool hi.out.symm, hbW.out.trans ((below_regrown W dq osq).mono hbW.out.size)⟩
  · have hm' : y < 1 ∨ 9999 < y := by omega
    have hi : Hid (isDate y m d = false) := Lib.hid (by unfold isDate; simp; omega)
    go_enter Try.func13, Try.ntmps13
    go_wp2_with fail
    generalize hW : w.alloc (.cells #[.int .i64 y, .int .i64 m, .int .i64 d] 23) = W
    have c0 : W.cell? ⟨w.heap.size, 0, none⟩ = some (.int .i64 y) := by subst hW; simp
    have c1 : W.cell? ⟨w.heap.size, 1, none⟩ = some (.int .i64 m) := by subst hW; simp
    have c2 : W.cell? ⟨w.heap.size, 2, none⟩ = some (.int .i64 d) := by subst hW; simp
    have g0 : W.frozen? ⟨w.heap.size, 0, none⟩ = false := by subst hW; simp
    have g1 : W.frozen? ⟨w.heap.size, 1, none⟩ = false := by subst hW; simp
    have g2 : W.frozen? ⟨w.heap.size, 2, none⟩ = false := by subst hW; simp
    have hbW : Hid (Below w.heap.size w W) := Lib.hid (by subst hW; exact (Below.refl _ _).alloc (Nat.le_refl _) _)
    have hzW : w.heap.size < W.heap.size := by subst hW; simp
    clear hW
    have k0 := cell_regrown c0
    have k1 := cell_regrown c1
    have k2 := cell_regrown c2
    refine wp_region_quiet_below (by kernel_rfl) (by kernel_rfl) ?_
    repeat (go_big_quiet_step ((go_at_call 27; exact Calls.regrown_of (Calls.bel (between_f _ _ _ _ hm')))))
    refine wpQuiet_nil ?_
    intro _ hw'
    obtain ⟨⟨dq, osq⟩, hw''⟩ := hw'
    subst hw''
    go_wp2
    go_ret
    exact ⟨ret_bool hi.out.symm, hbW.out.trans ((below_regrown W dq osq).mono hbW.out.size)⟩

theorem num_ref1 {y m d : Int} (hm : 3 ≤ m) (hm2 : m ≤ 12) : y / 400 * 146097 + y % 400 * 365 + y % 400 / 4 - y % 400 / 100 + (153 * (m - 3) + 2) / 5 + d - 1 - 719468 = num y m d := by
  have := lp_iff y
  unfold num cum bef; rw [if_neg (by omega), this]; split <;> omega
theorem num_ref2 {y m d : Int} (hm : 1 ≤ m) (hm2 : m < 3) : (y - 1) / 400 * 146097 + (y - 1) % 400 * 365 + (y - 1) % 400 / 4 - (y - 1) % 400 / 100 + (153 * (m - 3 + 12) + 2) / 5 + d - 1 - 719468 = num y m d := by
  unfold num cum bef; rw [if_pos (by omega)]; omega

set_option maxHeartbeats 400000 in
theorem daysOf_any (y m d : Int) (w : World) (y0 : 1 ≤ y) (y1 : y ≤ 20000) (m0 : 1 ≤ m) (m1 : m ≤ 12) (d0 : -1000 ≤ d) (d1 : d ≤ 1000) :
    Calls Try.prog 14 #[.agg #[.int .i64 y, .int .i64 m, .int .i64 d]] w fun e w' => e = .returned (.int .i64 (num y m d)) ∧ Below w.heap.size w w' := by
  by_cases hm : 3 ≤ m
  · have H := Lib.hid (num_ref1 (y := y) (d := d) hm m1)
    go_enter Try.func14, Try.ntmps14
    go_wp2_with fail
    go_quiet (fail)
    go_wp2_with fail
    go_ret
    exact ⟨ret_int H.out, below_drewN ((Below.refl _ _).alloc (Nat.le_refl _) _) _⟩
  · have H := Lib.hid (num_ref2 (y := y) (d := d) m0 (by omega))
    go_enter Try.func14, Try.ntmps14
    go_wp2_with fail
    go_quiet (fail)
    go_wp2_with fail
    go_ret
    exact ⟨ret_int H.out, below_drewN ((Below.refl _ _).alloc (Nat.le_refl _) _) _⟩

set_option maxHeartbeats 400000 in
theorem firstDay_any (w : World) :
    Calls Try.prog 15 #[] w fun e w' => e = .returned (.int .i64 (-719162)) ∧ Below w.heap.size w w' := by
  have H : Hid (num 1 1 1 = -719162) := Lib.hid (by decide)
  go_enter Try.func15, Try.ntmps15
  go_wp2_with (go_at_call 14; refine (daysOf_any _ _ _ _ (by omega) (by omega) (by omega) (by omega) (by omega) (by omega)).mono ?_; rintro e w' ⟨rfl, hb⟩)
  go_ret
  exact ⟨ret_int H.out, hb⟩

set_option maxHeartbeats 400000 in
theorem lastDay_any (w : World) :
    Calls Try.prog 16 #[] w fun e w' => e = .returned (.int .i64 2932896) ∧ Below w.heap.size w w' := by
  have H : Hid (num 9999 12 31 = 2932896) := Lib.hid (by decide)
  go_enter Try.func16, Try.ntmps16
  go_wp2_with (go_at_call 14; refine (daysOf_any _ _ _ _ (by omega) (by omega) (by omega) (by omega) (by omega) (by omega)).mono ?_; rintro e w' ⟨rfl, hb⟩)
  go_ret
  exact ⟨ret_int H.out, hb⟩

set_option maxHeartbeats 400000 in
theorem weekdayOf_any (n : Int) (w : World) :
    Calls Try.prog 18 #[.int .i64 n] w fun e w' => e = .returned (.int .i64 (wd n)) ∧ w = w' := by
  by_cases h : n.tmod 7 < 0
  · have hb : -7 < n.tmod 7 := by rw [tmod7] at *; split at h <;> omega
    have H : Hid ((n.tmod 7 + 7 + 4) % 7 = wd n) := Lib.hid (by rw [tmod7] at *; unfold wd; split at h <;> omega)
    go_enter Try.func18, Try.ntmps18
    go_wp2
    go_ret
    exact ⟨ret_int H.out, rfl⟩
  · have hb : n.tmod 7 < 7 := by rw [tmod7] at *; split at h <;> omega
    have h0 : 0 ≤ n.tmod 7 := by omega
    have H : Hid ((n.tmod 7 + 4) % 7 = wd n) := Lib.hid (by rw [tmod7] at *; unfold wd; split at h <;> omega)
    go_enter Try.func18, Try.ntmps18
    go_wp2
    go_ret
    exact ⟨ret_int H.out, rfl⟩

end Go.Proofs.Ytbbhpjnifeheiaa
