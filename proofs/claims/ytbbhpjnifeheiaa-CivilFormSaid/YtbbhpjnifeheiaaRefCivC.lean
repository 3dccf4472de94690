/-
  Contract of the reference's OnOf. No condition.
-/
import Derived.Test.YtbbhpjnifeheiaaRefCivB
set_option linter.unusedVariables false
set_option linter.unusedSimpArgs false
namespace Go.Proofs.Ytbbhpjnifeheiaa
open Go.RowKit Go.Sort Civ

theorem onV_no {y m kind wk n k : Int} (h : formE y m kind wk n = k) (hk : k ≠ 0) : onV y m kind wk n = ((0, 0, 0), k) := by
  unfold onV; rw [h, if_pos hk]

set_option maxHeartbeats 1000000 in
theorem refOn_no (y m kind wk n : Int) (w : World) (h : formE y m kind wk n ≠ 0) :
    Calls Try.prog 20 #[.int .i64 y, .int .i64 m, .agg #[.int .i64 kind, .int .i64 wk, .int .i64 n]] w fun e w' => e = .returned (.tuple #[dv (onV y m kind wk n).1, .int .i64 (onV y m kind wk n).2]) ∧ Below w.heap.size w w' := by
  by_cases hy : 1 ≤ y ∧ y ≤ 9999
  · by_cases hm : 1 ≤ m ∧ m ≤ 12
    · by_cases hk : 1 ≤ kind ∧ kind ≤ 4
      · by_cases hw : 0 ≤ wk ∧ wk ≤ 6
        · have h2 : kind = 1 ∨ kind = 2 ∨ kind = 3 ∨ kind = 4 := by omega
          rcases h2 with rfl | rfl | rfl | rfl
          · by_cases h1 : wk = 0
            · subst h1
              have hn : ¬ (1 ≤ n ∧ n ≤ mlen y m) := by unfold formE at h; omega
              have hi : Hid (onV y m 1 0 n = ((0, 0, 0), 3)) := Lib.hid (onV_no (by unfold formE; rw [if_neg (by omega), if_neg (by omega), if_neg (by omega), if_pos (by omega)]) (by omega))
              have hn' : n < 1 ∨ mlen y m < n := by omega
              have H := Lib.hid h; clear h
              go_enter Try.func20, Try.ntmps20
              go_wp2_with (first | (go_at_call 27; (first | (refine (between_t _ _ _ _ (by omega)).mono ?_) | (refine (between_f _ _ _ _ (by omega)).mono ?_)); rintro e w' ⟨rfl, rfl⟩) | (go_at_call 28; refine (monthLength_any _ _ _ (by omega)).mono ?_; rintro e w' ⟨rfl, rfl⟩))
              refine bodyPost_ret (v := .tuple #[.agg #[.int .i64 0, .int .i64 0, .int .i64 0], .int .i64 3]) (by simp [results, Try.results20, go_sem]) rfl ⟨by rw [hi.out]; rfl, ?_⟩
              exact ((Below.refl _ _).alloc (Nat.le_refl _) _).alloc (by simp) _
            · have hi : Hid (onV y m 1 wk n = ((0, 0, 0), 3)) := Lib.hid (onV_no (by unfold formE; rw [if_neg (by omega), if_neg (by omega), if_pos (by omega)]) (by omega))
              have hwb : (wk == 0) = false := by simpa using h1
              have H := Lib.hid h; clear h
              go_enter Try.func20, Try.ntmps20
              go_wp2_with (first | (go_at_call 27; (first | (refine (between_t _ _ _ _ (by omega)).mono ?_) | (refine (between_f _ _ _ _ (by omega)).mono ?_)); rintro e w' ⟨rfl, rfl⟩) | (go_at_call 28; refine (monthLength_any _ _ _ (by omega)).mono ?_; rintro e w' ⟨rfl, rfl⟩))
              refine bodyPost_ret (v := .tuple #[.agg #[.int .i64 0, .int .i64 0, .int .i64 0], .int .i64 3]) (by simp [results, Try.results20, go_sem]) rfl ⟨by rw [hi.out]; rfl, ?_⟩
              exact ((Below.refl _ _).alloc (Nat.le_refl _) _).alloc (by simp) _
          · have hn : n ≠ 0 := by unfold formE at h; omega
            have hi : Hid (onV y m 2 wk n = ((0, 0, 0), 3)) := Lib.hid (onV_no (by unfold formE; rw [if_neg (by omega), if_neg (by omega), if_neg (by omega), if_pos (by omega)]) (by omega))
            have hwb : (n == 0) = false := by simpa using hn
            have hwc : (n != 0) = true := by simpa using hn
            have H := Lib.hid h; clear h
            go_enter Try.func20, Try.ntmps20
            go_wp2_with (first | (go_at_call 27; (first | (refine (between_t _ _ _ _ (by omega)).mono ?_) | (refine (between_f _ _ _ _ (by omega)).mono ?_)); rintro e w' ⟨rfl, rfl⟩) | (go_at_call 28; refine (monthLength_any _ _ _ (by omega)).mono ?_; rintro e w' ⟨rfl, rfl⟩))
            refine bodyPost_ret (v := .tuple #[.agg #[.int .i64 0, .int .i64 0, .int .i64 0], .int .i64 3]) (by simp [results, Try.results20, go_sem]) rfl ⟨by rw [hi.out]; rfl, ?_⟩
            exact ((Below.refl _ _).alloc (Nat.le_refl _) _).alloc (by simp) _
          · have hn : ¬ (1 ≤ n ∧ n ≤ mlen y m) := by unfold formE at h; omega
            have hi : Hid (onV y m 3 wk n = ((0, 0, 0), 3)) := Lib.hid (onV_no (by unfold formE; rw [if_neg (by omega), if_neg (by omega), if_neg (by omega), if_pos (by omega)]) (by omega))
            have hn' : n < 1 ∨ mlen y m < n := by omega
            have H := Lib.hid h; clear h
            go_enter Try.func20, Try.ntmps20
            go_wp2_with (first | (go_at_call 27; (first | (refine (between_t _ _ _ _ (by omega)).mono ?_) | (refine (between_f _ _ _ _ (by omega)).mono ?_)); rintro e w' ⟨rfl, rfl⟩) | (go_at_call 28; refine (monthLength_any _ _ _ (by omega)).mono ?_; rintro e w' ⟨rfl, rfl⟩))
            refine bodyPost_ret (v := .tuple #[.agg #[.int .i64 0, .int .i64 0, .int .i64 0], .int .i64 3]) (by simp [results, Try.results20, go_sem]) rfl ⟨by rw [hi.out]; rfl, ?_⟩
            exact ((Below.refl _ _).alloc (Nat.le_refl _) _).alloc (by simp) _
          · have hn : ¬ (1 ≤ n ∧ n ≤ mlen y m) := by unfold formE at h; omega
            have hi : Hid (onV y m 4 wk n = ((0, 0, 0), 3)) := Lib.hid (onV_no (by unfold formE; rw [if_neg (by omega), if_neg (by omega), if_neg (by omega), if_pos (by omega)]) (by omega))
            have hn' : n < 1 ∨ mlen y m < n := by omega
            have H := Lib.hid h; clear h
            go_enter Try.func20, Try.ntmps20
            go_wp2_with (first | (go_at_call 27; (first | (refine (between_t _ _ _ _ (by omega)).mono ?_) | (refine (between_f _ _ _ _ (by omega)).mono ?_)); rintro e w' ⟨rfl, rfl⟩) | (go_at_call 28; refine (monthLength_any _ _ _ (by omega)).mono ?_; rintro e w' ⟨rfl, rfl⟩))
            refine bodyPost_ret (v := .tuple #[.agg #[.int .i64 0, .int .i64 0, .int .i64 0], .int .i64 3]) (by simp [results, Try.results20, go_sem]) rfl ⟨by rw [hi.out]; rfl, ?_⟩
            exact ((Below.refl _ _).alloc (Nat.le_refl _) _).alloc (by simp) _
        · have hw' : wk < 0 ∨ 6 < wk := by omega
          have hi : Hid (onV y m kind wk n = ((0, 0, 0), 3)) := Lib.hid (onV_no (by unfold formE; rw [if_neg (by omega), if_neg (by omega), if_pos (by omega)]) (by omega))
          have H := Lib.hid h; clear h
          go_enter Try.func20, Try.ntmps20
          go_wp2_with (first | (go_at_call 27; (first | (refine (between_t _ _ _ _ (by omega)).mono ?_) | (refine (between_f _ _ _ _ (by omega)).mono ?_)); rintro e w' ⟨rfl, rfl⟩) | (go_at_call 28; refine (monthLength_any _ _ _ (by omega)).mono ?_; rintro e w' ⟨rfl, rfl⟩))
          refine bodyPost_ret (v := .tuple #[.agg #[.int .i64 0, .int .i64 0, .int .i64 0], .int .i64 3]) (by simp [results, Try.results20, go_sem]) rfl ⟨by rw [hi.out]; rfl, ?_⟩
          exact ((Below.refl _ _).alloc (Nat.le_refl _) _).alloc (by simp) _
      · have hk' : kind < 1 ∨ 4 < kind := by omega
        have hi : Hid (onV y m kind wk n = ((0, 0, 0), 7)) := Lib.hid (onV_no (by unfold formE; rw [if_neg (by omega), if_pos (by omega)]) (by omega))
        have H := Lib.hid h; clear h
        go_enter Try.func20, Try.ntmps20
        go_wp2_with (first | (go_at_call 27; (first | (refine (between_t _ _ _ _ (by omega)).mono ?_) | (refine (between_f _ _ _ _ (by omega)).mono ?_)); rintro e w' ⟨rfl, rfl⟩) | (go_at_call 28; refine (monthLength_any _ _ _ (by omega)).mono ?_; rintro e w' ⟨rfl, rfl⟩))
        refine bodyPost_ret (v := .tuple #[.agg #[.int .i64 0, .int .i64 0, .int .i64 0], .int .i64 7]) (by simp [results, Try.results20, go_sem]) rfl ⟨by rw [hi.out]; rfl, ?_⟩
        exact ((Below.refl _ _).alloc (Nat.le_refl _) _).alloc (by simp) _
    · have hm' : m < 1 ∨ 12 < m := by omega
      have hi : Hid (onV y m kind wk n = ((0, 0, 0), 3)) := Lib.hid (onV_no (by unfold formE; rw [if_pos (by omega)]) (by omega))
      have H := Lib.hid h; clear h
      go_enter Try.func20, Try.ntmps20
      go_wp2_with (first | (go_at_call 27; (first | (refine (between_t _ _ _ _ (by omega)).mono ?_) | (refine (between_f _ _ _ _ (by omega)).mono ?_)); rintro e w' ⟨rfl, rfl⟩) | (go_at_call 28; refine (monthLength_any _ _ _ (by omega)).mono ?_; rintro e w' ⟨rfl, rfl⟩))
      refine bodyPost_ret (v := .tuple #[.agg #[.int .i64 0, .int .i64 0, .int .i64 0], .int .i64 3]) (by simp [results, Try.results20, go_sem]) rfl ⟨by rw [hi.out]; rfl, ?_⟩
      exact ((Below.refl _ _).alloc (Nat.le_refl _) _).alloc (by simp) _
  · have hy' : y < 1 ∨ 9999 < y := by omega
    have hi : Hid (onV y m kind wk n = ((0, 0, 0), 3)) := Lib.hid (onV_no (by unfold formE; rw [if_pos (by omega)]) (by omega))
    have H := Lib.hid h; clear h
    go_enter Try.func20, Try.ntmps20
    go_wp2_with (first | (go_at_call 27; (first | (refine (between_t _ _ _ _ (by omega)).mono ?_) | (refine (between_f _ _ _ _ (by omega)).mono ?_)); rintro e w' ⟨rfl, rfl⟩) | (go_at_call 28; refine (monthLength_any _ _ _ (by omega)).mono ?_; rintro e w' ⟨rfl, rfl⟩))
    refine bodyPost_ret (v := .tuple #[.agg #[.int .i64 0, .int .i64 0, .int .i64 0], .int .i64 3]) (by simp [results, Try.results20, go_sem]) rfl ⟨by rw [hi.out]; rfl, ?_⟩
    exact ((Below.refl _ _).alloc (Nat.le_refl _) _).alloc (by simp) _

end Go.Proofs.Ytbbhpjnifeheiaa
