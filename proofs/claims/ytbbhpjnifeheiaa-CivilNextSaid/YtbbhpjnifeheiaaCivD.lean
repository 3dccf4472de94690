/-
  Contracts of the civil package's functions on forms of days. Conditions: those that each theorem names.
-/
import Derived.Test.YtbbhpjnifeheiaaCivC
set_option linter.unusedVariables false
set_option linter.unusedSimpArgs false
namespace Go.Proofs.Ytbbhpjnifeheiaa
open Go.RowKit Civ

namespace Civ
def fwd (n k : Int) : Int := n + (k - wd n) % 7
def bwd (n k : Int) : Int := n - (wd n - k) % 7
theorem wd_fwd_ne {n k j : Int} (h0 : 0 ≤ j) (h1 : j < (k - wd n) % 7) (hk : 0 ≤ k ∧ k ≤ 6) : (wd (n + j) == k) = false := by
  rw [beq_eq_false_iff_ne]; unfold wd at *; omega
theorem wd_fwd_eq {n k : Int} (hk : 0 ≤ k ∧ k ≤ 6) : (wd (n + (k - wd n) % 7) == k) = true := by
  rw [beq_iff_eq]; unfold wd at *; omega
theorem wd_bwd_ne {n k j : Int} (h0 : 0 ≤ j) (h1 : j < (wd n - k) % 7) (hk : 0 ≤ k ∧ k ≤ 6) : (wd (n - j) == k) = false := by
  rw [beq_eq_false_iff_ne]; unfold wd at *; omega
theorem wd_bwd_eq {n k : Int} (hk : 0 ≤ k ∧ k ≤ 6) : (wd (n - (wd n - k) % 7) == k) = true := by
  rw [beq_iff_eq]; unfold wd at *; omega
end Civ

set_option maxHeartbeats 400000 in
theorem toward_fwd (n k : Int) (w : World) (h0 : -100000000 ≤ n) (h1 : n ≤ 100000000) (hk : 0 ≤ k ∧ k ≤ 6) :
    Calls Try.prog 30 #[.int .i64 n, .int .i64 k, .int .i64 1] w fun e w' => e = .returned (.int .i64 (fwd n k)) ∧ w = w' := by
  go_enter Try.func30, Try.ntmps30
  go_wp2_with fail
  go_loop [0] (fun t => ∃ j : Int, 0 ≤ j ∧ j ≤ (k - wd n) % 7 ∧ t = .int .i64 (n + j)) (fun t => (n + 7 - intOf t).toNat)
  case atStart => exact ⟨0, by omega, by omega, by simp⟩
  case round =>
    obtain ⟨j, hj0, hj1, rfl⟩ := hrel
    by_cases hlt : j < (k - wd n) % 7
    · have hq := wd_fwd_ne hj0 hlt hk
      go_wp2_with (go_at_call 11; refine (weekday_any _ _).mono ?_; rintro e w' ⟨rfl, rfl⟩)
      go_round
      case rel => exact ⟨j + 1, by omega, by omega, by go_num⟩
      case measure => simp [intOf]; omega
    · obtain rfl : j = (k - wd n) % 7 := by omega
      have hq := wd_fwd_eq (n := n) hk
      go_wp2_with (go_at_call 11; refine (weekday_any _ _).mono ?_; rintro e w' ⟨rfl, rfl⟩)
      go_ret
      exact ⟨rfl, rfl⟩

set_option maxHeartbeats 400000 in
theorem toward_bwd (n k : Int) (w : World) (h0 : -100000000 ≤ n) (h1 : n ≤ 100000000) (hk : 0 ≤ k ∧ k ≤ 6) :
    Calls Try.prog 30 #[.int .i64 n, .int .i64 k, .int .i64 (-1)] w fun e w' => e = .returned (.int .i64 (bwd n k)) ∧ w = w' := by
  go_enter Try.func30, Try.ntmps30
  go_wp2_with fail
  go_loop [0] (fun t => ∃ j : Int, 0 ≤ j ∧ j ≤ (wd n - k) % 7 ∧ t = .int .i64 (n - j)) (fun t => (intOf t - n + 7).toNat)
  case atStart => exact ⟨0, by omega, by omega, by simp⟩
  case round =>
    obtain ⟨j, hj0, hj1, rfl⟩ := hrel
    by_cases hlt : j < (wd n - k) % 7
    · have hq := wd_bwd_ne hj0 hlt hk
      go_wp2_with (go_at_call 11; refine (weekday_any _ _).mono ?_; rintro e w' ⟨rfl, rfl⟩)
      go_round
      case rel => exact ⟨j + 1, by omega, by omega, by go_num⟩
      case measure => simp [intOf]; omega
    · obtain rfl : j = (wd n - k) % 7 := by omega
      have hq := wd_bwd_eq (n := n) hk
      go_wp2_with (go_at_call 11; refine (weekday_any _ _).mono ?_; rintro e w' ⟨rfl, rfl⟩)
      go_ret
      exact ⟨rfl, rfl⟩

namespace Civ
/-- what is wrong with a form in a month -/
def formE (y m kind wk n : Int) : Int :=
  if ¬ (1 ≤ y ∧ y ≤ 9999) ∨ ¬ (1 ≤ m ∧ m ≤ 12) then 3
  else if ¬ (1 ≤ kind ∧ kind ≤ 4) then 7
  else if ¬ (0 ≤ wk ∧ wk ≤ 6) ∨ kind = 1 ∧ wk ≠ 0 then 3
  else if kind = 2 ∧ n ≠ 0 ∨ kind ≠ 2 ∧ ¬ (1 ≤ n ∧ n ≤ mlen y m) then 3
  else 0
/-- the day of a form that is right -/
def onDay (y m kind wk n : Int) : Int :=
  if kind = 2 then bwd (num y m (mlen y m)) wk else if kind = 3 then fwd (num y m n) wk else if kind = 4 then bwd (num y m n) wk else num y m n
/-- what On answers -/
def onV (y m kind wk n : Int) : (Int × Int × Int) × Int :=
  if formE y m kind wk n ≠ 0 then ((0, 0, 0), formE y m kind wk n)
  else if -719162 ≤ onDay y m kind wk n ∧ onDay y m kind wk n ≤ 2932896 then (dateOf (onDay y m kind wk n), 0) else ((0, 0, 0), 3)
end Civ

set_option maxHeartbeats 1000000 in
theorem form_any (y m kind wk n : Int) (w : World) :
    Calls Try.prog 29 #[.int .i64 y, .int .i64 m, .agg #[.int .i64 kind, .int .i64 wk, .int .i64 n]] w fun e w' => e = .returned (.int .i64 (formE y m kind wk n)) ∧ Below w.heap.size w w' := by
  by_cases hy : 1 ≤ y ∧ y ≤ 9999
  · by_cases hm : 1 ≤ m ∧ m ≤ 12
    · by_cases hk : 1 ≤ kind ∧ kind ≤ 4
      · by_cases hw : 0 ≤ wk ∧ wk ≤ 6
        · have h2 : kind = 1 ∨ kind = 2 ∨ kind = 3 ∨ kind = 4 := by omega
          rcases h2 with rfl | rfl | rfl | rfl
          · by_cases h1 : wk = 0
            · subst h1
              by_cases hn : 1 ≤ n ∧ n ≤ mlen y m
              · have hi : Hid (formE y m 1 0 n = 0) := Lib.hid (by unfold formE; rw [if_neg (by omega), if_neg (by omega), if_neg (by omega), if_neg (by omega)])
                go_enter Try.func29, Try.ntmps29
                go_wp2_with (first | (go_at_call 23; (first | (refine (within_t _ _ _ _ (by omega)).mono ?_) | (refine (within_f _ _ _ _ (by omega)).mono ?_)); rintro e w' ⟨rfl, rfl⟩))
                have hq := wi_t hn
                generalize hW : w.alloc (.cells #[.int .i64 1, .int .i64 0, .int .i64 n] 38) = W
                have c0 : W.cell? ⟨w.heap.size, 0, none⟩ = some (.int .i64 1) := by subst hW; simp
                have c1 : W.cell? ⟨w.heap.size, 1, none⟩ = some (.int .i64 0) := by subst hW; simp
                have c2 : W.cell? ⟨w.heap.size, 2, none⟩ = some (.int .i64 n) := by subst hW; simp
                have g0 : W.frozen? ⟨w.heap.size, 0, none⟩ = false := by subst hW; simp
                have g1 : W.frozen? ⟨w.heap.size, 1, none⟩ = false := by subst hW; simp
                have g2 : W.frozen? ⟨w.heap.size, 2, none⟩ = false := by subst hW; simp
                have hbW : Hid (Below w.heap.size w W) := Lib.hid (by subst hW; exact (Below.refl _ _).alloc (Nat.le_refl _) _)
                have hzW : w.heap.size < W.heap.size := by subst hW; simp
                clear hW
                have k0 := cell_regrown c0
                have k1 := cell_regrown c1
                have k2 := cell_regrown c2
                refine wp_region_quiet_below (by kernel_rfl) (by kernel_rfl) ?_
                repeat (go_big_quiet_step (first | (go_at_call 23; exact Calls.regrown_of (Calls.bel (within_any _ _ _ _))) | (go_at_call 31; exact Calls.regrown_of (length_any _ _ _ (by omega) (by omega) (by omega)))))
                refine wpQuiet_nil ?_
                intro _ hw'
                obtain ⟨⟨dq, osq⟩, hw''⟩ := hw'
                subst hw''
                go_wp2
                go_ret
                exact ⟨ret_int hi.out.symm, hbW.out.trans ((below_regrown W dq osq).mono hbW.out.size)⟩
              · have hi : Hid (formE y m 1 0 n = 3) := Lib.hid (by unfold formE; rw [if_neg (by omega), if_neg (by omega), if_neg (by omega), if_pos (by omega)])
                go_enter Try.func29, Try.ntmps29
                go_wp2_with (first | (go_at_call 23; (first | (refine (within_t _ _ _ _ (by omega)).mono ?_) | (refine (within_f _ _ _ _ (by omega)).mono ?_)); rintro e w' ⟨rfl, rfl⟩))
                have hq := wi_f (n := n) (a := 1) (b := mlen y m) (by omega)
                generalize hW : w.alloc (.cells #[.int .i64 1, .int .i64 0, .int .i64 n] 38) = W
                have c0 : W.cell? ⟨w.heap.size, 0, none⟩ = some (.int .i64 1) := by subst hW; simp
                have c1 : W.cell? ⟨w.heap.size, 1, none⟩ = some (.int .i64 0) := by subst hW; simp
                have c2 : W.cell? ⟨w.heap.size, 2, none⟩ = some (.int .i64 n) := by subst hW; simp
                have g0 : W.frozen? ⟨w.heap.size, 0, none⟩ = false := by subst hW; simp
                have g1 : W.frozen? ⟨w.heap.size, 1, none⟩ = false := by subst hW; simp
                have g2 : W.frozen? ⟨w.heap.size, 2, none⟩ = false := by subst hW; simp
                have hbW : Hid (Below w.heap.size w W) := Lib.hid (by subst hW; exact (Below.refl _ _).alloc (Nat.le_refl _) _)
                have hzW : w.heap.size < W.heap.size := by subst hW; simp
                clear hW
                have k0 := cell_regrown c0
                have k1 := cell_regrown c1
                have k2 := cell_regrown c2
                refine wp_region_quiet_below (by kernel_rfl) (by kernel_rfl) ?_
                repeat (go_big_quiet_step (first | (go_at_call 23; exact Calls.regrown_of (Calls.bel (within_any _ _ _ _))) | (go_at_call 31; exact Calls.regrown_of (length_any _ _ _ (by omega) (by omega) (by omega)))))
                refine wpQuiet_nil ?_
                intro _ hw'
                obtain ⟨⟨dq, osq⟩, hw''⟩ := hw'
                subst hw''
                go_wp2
                go_ret
                exact ⟨ret_int hi.out.symm, hbW.out.trans ((below_regrown W dq osq).mono hbW.out.size)⟩
            · have hi : Hid (formE y m 1 wk n = 3) := Lib.hid (by unfold formE; rw [if_neg (by omega), if_neg (by omega), if_pos (by omega)])
              have hwb : (wk == 0) = false := by simpa using h1
              go_enter Try.func29, Try.ntmps29
              go_wp2_with (first | (go_at_call 23; (first | (refine (within_t _ _ _ _ (by omega)).mono ?_) | (refine (within_f _ _ _ _ (by omega)).mono ?_)); rintro e w' ⟨rfl, rfl⟩))
              go_ret
              exact ⟨ret_int hi.out.symm, (Below.refl _ _).alloc (Nat.le_refl _) _⟩
          · by_cases hn : n = 0
            · subst hn
              have hi : Hid (formE y m 2 wk 0 = 0) := Lib.hid (by unfold formE; rw [if_neg (by omega), if_neg (by omega), if_neg (by omega), if_neg (by omega)])
              go_enter Try.func29, Try.ntmps29
              go_wp2_with (first | (go_at_call 23; (first | (refine (within_t _ _ _ _ (by omega)).mono ?_) | (refine (within_f _ _ _ _ (by omega)).mono ?_)); rintro e w' ⟨rfl, rfl⟩))
              generalize hW : w.alloc (.cells #[.int .i64 2, .int .i64 wk, .int .i64 0] 38) = W
              have c0 : W.cell? ⟨w.heap.size, 0, none⟩ = some (.int .i64 2) := by subst hW; simp
              have c1 : W.cell? ⟨w.heap.size, 1, none⟩ = some (.int .i64 wk) := by subst hW; simp
              have c2 : W.cell? ⟨w.heap.size, 2, none⟩ = some (.int .i64 0) := by subst hW; simp
              have g0 : W.frozen? ⟨w.heap.size, 0, none⟩ = false := by subst hW; simp
              have g1 : W.frozen? ⟨w.heap.size, 1, none⟩ = false := by subst hW; simp
              have g2 : W.frozen? ⟨w.heap.size, 2, none⟩ = false := by subst hW; simp
              have hbW : Hid (Below w.heap.size w W) := Lib.hid (by subst hW; exact (Below.refl _ _).alloc (Nat.le_refl _) _)
              have hzW : w.heap.size < W.heap.size := by subst hW; simp
              clear hW
              have k0 := cell_regrown c0
              have k1 := cell_regrown c1
              have k2 := cell_regrown c2
              refine wp_region_quiet_below (by kernel_rfl) (by kernel_rfl) ?_
              repeat (go_big_quiet_step (first | (go_at_call 23; exact Calls.regrown_of (Calls.bel (within_any _ _ _ _))) | (go_at_call 31; exact Calls.regrown_of (length_any _ _ _ (by omega) (by omega) (by omega)))))
              refine wpQuiet_nil ?_
              intro _ hw'
              obtain ⟨⟨dq, osq⟩, hw''⟩ := hw'
              subst hw''
              go_wp2
              go_ret
              exact ⟨ret_int hi.out.symm, hbW.out.trans ((below_regrown W dq osq).mono hbW.out.size)⟩
            · have hi : Hid (formE y m 2 wk n = 3) := Lib.hid (by unfold formE; rw [if_neg (by omega), if_neg (by omega), if_neg (by omega), if_pos (by omega)])
              have hwb : (n == 0) = false := by simpa using hn
              have hwc : (n != 0) = true := by simpa using hn
              go_enter Try.func29, Try.ntmps29
              go_wp2_with (first | (go_at_call 23; (first | (refine (within_t _ _ _ _ (by omega)).mono ?_) | (refine (within_f _ _ _ _ (by omega)).mono ?_)); rintro e w' ⟨rfl, rfl⟩))
              generalize hW : w.alloc (.cells #[.int .i64 2, .int .i64 wk, .int .i64 n] 38) = W
              have c0 : W.cell? ⟨w.heap.size, 0, none⟩ = some (.int .i64 2) := by subst hW; simp
              have c1 : W.cell? ⟨w.heap.size, 1, none⟩ = some (.int .i64 wk) := by subst hW; simp
              have c2 : W.cell? ⟨w.heap.size, 2, none⟩ = some (.int .i64 n) := by subst hW; simp
              have g0 : W.frozen? ⟨w.heap.size, 0, none⟩ = false := by subst hW; simp
              have g1 : W.frozen? ⟨w.heap.size, 1, none⟩ = false := by subst hW; simp
              have g2 : W.frozen? ⟨w.heap.size, 2, none⟩ = false := by subst hW; simp
              have hbW : Hid (Below w.heap.size w W) := Lib.hid (by subst hW; exact (Below.refl _ _).alloc (Nat.le_refl _) _)
              have hzW : w.heap.size < W.heap.size := by subst hW; simp
              clear hW
              have k0 := cell_regrown c0
              have k1 := cell_regrown c1
              have k2 := cell_regrown c2
              refine wp_region_quiet_below (by kernel_rfl) (by kernel_rfl) ?_
              repeat (go_big_quiet_step (first | (go_at_call 23; exact Calls.regrown_of (Calls.bel (within_any _ _ _ _))) | (go_at_call 31; exact Calls.regrown_of (length_any _ _ _ (by omega) (by omega) (by omega)))))
              refine wpQuiet_nil ?_
              intro _ hw'
              obtain ⟨⟨dq, osq⟩, hw''⟩ := hw'
              subst hw''
              go_wp2
              go_ret
              exact ⟨ret_int hi.out.symm, hbW.out.trans ((below_regrown W dq osq).mono hbW.out.size)⟩
          · by_cases hn : 1 ≤ n ∧ n ≤ mlen y m
            · have hi : Hid (formE y m 3 wk n = 0) := Lib.hid (by unfold formE; rw [if_neg (by omega), if_neg (by omega), if_neg (by omega), if_neg (by omega)])
              go_enter Try.func29, Try.ntmps29
              go_wp2_with (first | (go_at_call 23; (first | (refine (within_t _ _ _ _ (by omega)).mono ?_) | (refine (within_f _ _ _ _ (by omega)).mono ?_)); rintro e w' ⟨rfl, rfl⟩))
              have hq := wi_t hn
              generalize hW : w.alloc (.cells #[.int .i64 3, .int .i64 wk, .int .i64 n] 38) = W
              have c0 : W.cell? ⟨w.heap.size, 0, none⟩ = some (.int .i64 3) := by subst hW; simp
              have c1 : W.cell? ⟨w.heap.size, 1, none⟩ = some (.int .i64 wk) := by subst hW; simp
              have c2 : W.cell? ⟨w.heap.size, 2, none⟩ = some (.int .i64 n) := by subst hW; simp
              have g0 : W.frozen? ⟨w.heap.size, 0, none⟩ = false := by subst hW; simp
              have g1 : W.frozen? ⟨w.heap.size, 1, none⟩ = false := by subst hW; simp
              have g2 : W.frozen? ⟨w.heap.size, 2, none⟩ = false := by subst hW; simp
              have hbW : Hid (Below w.heap.size w W) := Lib.hid (by subst hW; exact (Below.refl _ _).alloc (Nat.le_refl _) _)
              have hzW : w.heap.size < W.heap.size := by subst hW; simp
              clear hW
              have k0 := cell_regrown c0
              have k1 := cell_regrown c1
              have k2 := cell_regrown c2
              refine wp_region_quiet_below (by kernel_rfl) (by kernel_rfl) ?_
              repeat (go_big_quiet_step (first | (go_at_call 23; exact Calls.regrown_of (Calls.bel (within_any _ _ _ _))) | (go_at_call 31; exact Calls.regrown_of (length_any _ _ _ (by omega) (by omega) (by omega)))))
              refine wpQuiet_nil ?_
              intro _ hw'
              obtain ⟨⟨dq, osq⟩, hw''⟩ := hw'
              subst hw''
              go_wp2
              go_ret
              exact ⟨ret_int hi.out.symm, hbW.out.trans ((below_regrown W dq osq).mono hbW.out.size)⟩
            · have hi : Hid (formE y m 3 wk n = 3) := Lib.hid (by unfold formE; rw [if_neg (by omega), if_neg (by omega), if_neg (by omega), if_pos (by omega)])
              go_enter Try.func29, Try.ntmps29
              go_wp2_with (first | (go_at_call 23; (first | (refine (within_t _ _ _ _ (by omega)).mono ?_) | (refine (within_f _ _ _ _ (by omega)).mono ?_)); rintro e w' ⟨rfl, rfl⟩))
              have hq := wi_f (n := n) (a := 1) (b := mlen y m) (by omega)
              generalize hW : w.alloc (.cells #[.int .i64 3, .int .i64 wk, .int .i64 n] 38) = W
              have c0 : W.cell? ⟨w.heap.size, 0, none⟩ = some (.int .i64 3) := by subst hW; simp
              have c1 : W.cell? ⟨w.heap.size, 1, none⟩ = some (.int .i64 wk) := by subst hW; simp
              have c2 : W.cell? ⟨w.heap.size, 2, none⟩ = some (.int .i64 n) := by subst hW; simp
              have g0 : W.frozen? ⟨w.heap.size, 0, none⟩ = false := by subst hW; simp
              have g1 : W.frozen? ⟨w.heap.size, 1, none⟩ = false := by subst hW; simp
              have g2 : W.frozen? ⟨w.heap.size, 2, none⟩ = false := by subst hW; simp
              have hbW : Hid (Below w.heap.size w W) := Lib.hid (by subst hW; exact (Below.refl _ _).alloc (Nat.le_refl _) _)
              have hzW : w.heap.size < W.heap.size := by subst hW; simp
              clear hW
              have k0 := cell_regrown c0
              have k1 := cell_regrown c1
              have k2 := cell_regrown c2
              refine wp_region_quiet_below (by kernel_rfl) (by kernel_rfl) ?_
              repeat (go_big_quiet_step (first | (go_at_call 23; exact Calls.regrown_of (Calls.bel (within_any _ _ _ _))) | (go_at_call 31; exact Calls.regrown_of (length_any _ _ _ (by omega) (by omega) (by omega)))))
              refine wpQuiet_nil ?_
              intro _ hw'
              obtain ⟨⟨dq, osq⟩, hw''⟩ := hw'
              subst hw''
              go_wp2
              go_ret
              exact ⟨ret_int hi.out.symm, hbW.out.trans ((below_regrown W dq osq).mono hbW.out.size)⟩
          · by_cases hn : 1 ≤ n ∧ n ≤ mlen y m
            · have hi : Hid (formE y m 4 wk n = 0) := Lib.hid (by unfold formE; rw [if_neg (by omega), if_neg (by omega), if_neg (by omega), if_neg (by omega)])
              go_enter Try.func29, Try.ntmps29
              go_wp2_with (first | (go_at_call 23; (first | (refine (within_t _ _ _ _ (by omega)).mono ?_) | (refine (within_f _ _ _ _ (by omega)).mono ?_)); rintro e w' ⟨rfl, rfl⟩))
              have hq := wi_t hn
              generalize hW : w.alloc (.cells #[.int .i64 4, .int .i64 wk, .int .i64 n] 38) = W
              have c0 : W.cell? ⟨w.heap.size, 0, none⟩ = some (.int .i64 4) := by subst hW; simp
              have c1 : W.cell? ⟨w.heap.size, 1, none⟩ = some (.int .i64 wk) := by subst hW; simp
              have c2 : W.cell? ⟨w.heap.size, 2, none⟩ = some (.int .i64 n) := by subst hW; simp
              have g0 : W.frozen? ⟨w.heap.size, 0, none⟩ = false := by subst hW; simp
              have g1 : W.frozen? ⟨w.heap.size, 1, none⟩ = false := by subst hW; simp
              have g2 : W.frozen? ⟨w.heap.size, 2, none⟩ = false := by subst hW; simp
              have hbW : Hid (Below w.heap.size w W) := Lib.hid (by subst hW; exact (Below.refl _ _).alloc (Nat.le_refl _) _)
              have hzW : w.heap.size < W.heap.size := by subst hW; simp
              clear hW
              have k0 := cell_regrown c0
              have k1 := cell_regrown c1
              have k2 := cell_regrown c2
              refine wp_region_quiet_below (by kernel_rfl) (by kernel_rfl) ?_
              repeat (go_big_quiet_step (first | (go_at_call 23; exact Calls.regrown_of (Calls.bel (within_any _ _ _ _))) | (go_at_call 31; exact Calls.regrown_of (length_any _ _ _ (by omega) (by omega) (by omega)))))
              refine wpQuiet_nil ?_
              intro _ hw'
              obtain ⟨⟨dq, osq⟩, hw''⟩ := hw'
              subst hw''
              go_wp2
              go_ret
              exact ⟨ret_int hi.out.symm, hbW.out.trans ((below_regrown W dq osq).mono hbW.out.size)⟩
            · have hi : Hid (formE y m 4 wk n = 3) := Lib.hid (by unfold formE; rw [if_neg (by omega), if_neg (by omega), if_neg (by omega), if_pos (by omega)])
              go_enter Try.func29, Try.ntmps29
              go_wp2_with (first | (go_at_call 23; (first | (refine (within_t _ _ _ _ (by omega)).mono ?_) | (refine (within_f _ _ _ _ (by omega)).mono ?_)); rintro e w' ⟨rfl, rfl⟩))
              have hq := wi_f (n := n) (a := 1) (b := mlen y m) (by omega)
              generalize hW : w.alloc (.cells #[.int .i64 4, .int .i64 wk, .int .i64 n] 38) = W
              have c0 : W.cell? ⟨w.heap.size, 0, none⟩ = some (.int .i64 4) := by subst hW; simp
              have c1 : W.cell? ⟨w.heap.size, 1, none⟩ = some (.int .i64 wk) := by subst hW; simp
              have c2 : W.cell? ⟨w.heap.size, 2, none⟩ = some (.int .i64 n) := by subst hW; simp
              have g0 : W.frozen? ⟨w.heap.size, 0, none⟩ = false := by subst hW; simp
              have g1 : W.frozen? ⟨w.heap.size, 1, none⟩ = false := by subst hW; simp
              have g2 : W.frozen? ⟨w.heap.size, 2, none⟩ = false := by subst hW; simp
              have hbW : Hid (Below w.heap.size w W) := Lib.hid (by subst hW; exact (Below.refl _ _).alloc (Nat.le_refl _) _)
              have hzW : w.heap.size < W.heap.size := by subst hW; simp
              clear hW
              have k0 := cell_regrown c0
              have k1 := cell_regrown c1
              have k2 := cell_regrown c2
              refine wp_region_quiet_below (by kernel_rfl) (by kernel_rfl) ?_
              repeat (go_big_quiet_step (first | (go_at_call 23; exact Calls.regrown_of (Calls.bel (within_any _ _ _ _))) | (go_at_call 31; exact Calls.regrown_of (length_any _ _ _ (by omega) (by omega) (by omega)))))
              refine wpQuiet_nil ?_
              intro _ hw'
              obtain ⟨⟨dq, osq⟩, hw''⟩ := hw'
              subst hw''
              go_wp2
              go_ret
              exact ⟨ret_int hi.out.symm, hbW.out.trans ((below_regrown W dq osq).mono hbW.out.size)⟩
        · have hw' : wk < 0 ∨ 6 < wk := by omega
          have hi : Hid (formE y m kind wk n = 3) := Lib.hid (by unfold formE; rw [if_neg (by omega), if_neg (by omega), if_pos (by omega)])
          go_enter Try.func29, Try.ntmps29
          go_wp2_with (first | (go_at_call 23; (first | (refine (within_t _ _ _ _ (by omega)).mono ?_) | (refine (within_f _ _ _ _ (by omega)).mono ?_)); rintro e w' ⟨rfl, rfl⟩))
          go_ret
          exact ⟨ret_int hi.out.symm, (Below.refl _ _).alloc (Nat.le_refl _) _⟩
      · have hk' : kind < 1 ∨ 4 < kind := by omega
        have hi : Hid (formE y m kind wk n = 7) := Lib.hid (by unfold formE; rw [if_neg (by omega), if_pos (by omega)])
        go_enter Try.func29, Try.ntmps29
        go_wp2_with (first | (go_at_call 23; (first | (refine (within_t _ _ _ _ (by omega)).mono ?_) | (refine (within_f _ _ _ _ (by omega)).mono ?_)); rintro e w' ⟨rfl, rfl⟩))
        go_ret
        exact ⟨ret_int hi.out.symm, (Below.refl _ _).alloc (Nat.le_refl _) _⟩
    · have hm' : m < 1 ∨ 12 < m := by omega
      have hi : Hid (formE y m kind wk n = 3) := Lib.hid (by unfold formE; rw [if_pos (by omega)])
      go_enter Try.func29, Try.ntmps29
      go_wp2_with (first | (go_at_call 23; (first | (refine (within_t _ _ _ _ (by omega)).mono ?_) | (refine (within_f _ _ _ _ (by omega)).mono ?_)); rintro e w' ⟨rfl, rfl⟩))
      go_ret
      exact ⟨ret_int hi.out.symm, (Below.refl _ _).alloc (Nat.le_refl _) _⟩
  · have hy' : y < 1 ∨ 9999 < y := by omega
    have hi : Hid (formE y m kind wk n = 3) := Lib.hid (by unfold formE; rw [if_pos (by omega)])
    go_enter Try.func29, Try.ntmps29
    go_wp2_with (first | (go_at_call 23; (first | (refine (within_t _ _ _ _ (by omega)).mono ?_) | (refine (within_f _ _ _ _ (by omega)).mono ?_)); rintro e w' ⟨rfl, rfl⟩))
    go_ret
    exact ⟨ret_int hi.out.symm, (Below.refl _ _).alloc (Nat.le_refl _) _⟩

end Go.Proofs.Ytbbhpjnifeheiaa
