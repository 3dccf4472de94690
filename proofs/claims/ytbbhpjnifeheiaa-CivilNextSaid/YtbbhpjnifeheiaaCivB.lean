/-
  Contracts of the civil package's functions on dates. Conditions: those that each theorem names.
-/
import Derived.Test.YtbbhpjnifeheiaaCivA
import Derived.Deep.RegionHeld3
import Derived.Deep.DeepCutAuto
set_option linter.unusedVariables false
set_option linter.unusedSimpArgs false
namespace Go.Proofs.Ytbbhpjnifeheiaa
open Go.RowKit Civ

set_option maxHeartbeats 1000000 in
theorem number_any (y m d : Int) (w : World) (y0 : 1 ≤ y) (y1 : y ≤ 20000) (m0 : 1 ≤ m) (m1 : m ≤ 12) (d0 : -1000 ≤ d) (d1 : d ≤ 1000) :
    Calls Try.prog 22 #[.agg #[.int .i64 y, .int .i64 m, .int .i64 d]] w fun e w' => e = .returned (.int .i64 (num y m d)) ∧ Below w.heap.size w w' := by
  have hb := bef_bd y0 y1
  go_enter Try.func22, Try.ntmps22
  go_wp2_with fail
  go_quiet (first | (go_at_call 32; exact Calls.quiet_of_same ((before_any _ _ (by omega) (by omega)).mono fun _ _ h => ⟨h.1, h.2.symm⟩)) | (go_at_call 33; exact Calls.quiet_of_same ((epoch_any _).mono fun _ _ h => ⟨h.1, h.2.symm⟩)))
  go_wp2_with fail
  go_loopw [3, 4] (fun n i wr => ∃ k : Int, 1 ≤ k ∧ k ≤ m ∧ i = .int .i64 k ∧ n = .int .i64 (bef y - 719162 + d - 1 + cum y k) ∧ Below (w.heap.size + 1) (w.alloc (.cells #[.int .i64 y, .int .i64 m, .int .i64 d] 23)) wr) (fun _ i _ => (12 - intOf i).toNat)
  case atStart => exact ⟨1, by omega, by omega, rfl, by rw [cum_1]; simp, (below_drewN (Below.refl _ _) _)⟩
  case round =>
    rename_i wr
    obtain ⟨k, hk0, hk1, rfl, rfl, hb⟩ := hrel
    have c0 : wr.cell? ⟨w.heap.size, 0, none⟩ = some (.int .i64 y) := by rw [hb.cell (by simp)]; simp
    have c1 : wr.cell? ⟨w.heap.size, 1, none⟩ = some (.int .i64 m) := by rw [hb.cell (by simp)]; simp
    have hc := cum_bd (y := y) (m := k) hk0 (by omega)
    have hl := mlen_bd y k
    by_cases hlt : k < m
    · have hs := Lib.hid (cum_succ (y := y) (m := k) hk0 (by omega))
      go_wp2_with (go_at_call 31; refine (length_any _ _ _ (by omega) hk0 (by omega)).mono ?_; rintro e w1 ⟨rfl, hb1⟩)
      go_roundw
      case rel => exact ⟨k + 1, by omega, by omega, by go_num, by rw [hs.out]; go_num, hb.trans (hb1.mono (by have := hb.size; simp at this; omega))⟩
      case measure => simp [intOf]; omega
    · obtain rfl : k = m := by omega
      go_wp2_with fail
      go_ret
      exact ⟨ret_int (by unfold num; omega), ((Below.refl _ _).alloc (Nat.le_refl _) _).trans (hb.mono (by omega))⟩

set_option maxHeartbeats 1000000 in
theorem is_any (y m d : Int) (w : World) :
    Calls Try.prog 21 #[.agg #[.int .i64 y, .int .i64 m, .int .i64 d]] w fun e w' => e = .returned (.bool (isDate y m d)) ∧ Below w.heap.size w w' := by
  by_cases hy : 1 ≤ y ∧ y ≤ 9999
  · by_cases hm : 1 ≤ m ∧ m ≤ 12
    · have hi : Hid (isDate y m d = wi d 1 (mlen y m)) := Lib.hid (by unfold isDate wi; simp [hy, hm])
      go_enter Try.func21, Try.ntmps21
      go_wp2_with fail
      generalize hW : w.alloc (.cells #[.int .i64 y, .int .i64 m, .int .i64 d] 23) = W
      have c0 : W.cell? ⟨w.heap.size, 0, none⟩ = some (.int .i64 y) := by subst hW; simp
      have c1 : W.cell? ⟨w.heap.size, 1, none⟩ = some (.int .i64 m) := by subst hW; simp
      have c2 : W.cell? ⟨w.heap.size, 2, none⟩ = some (.int .i64 d) := by subst hW; simp
      have g0 : W.frozen? ⟨w.heap.size, 0, none⟩ = false := by subst hW; simp
      have g1 : W.frozen? ⟨w.heap.size, 1, none⟩ = false := by subst hW; simp
      have g2 : W.frozen? ⟨w.heap.size, 2, none⟩ = false := by subst hW; simp
      have hbW : Hid (Below w.heap.size w W) := Lib.hid (by subst hW; exact (Below.refl _ _).alloc (Nat.le_refl _) _)
      have hzW : w.heap.size < W.heap.size := by subst hW; simp
      clear hW
      have k0 := cell_regrown c0
      have k1 := cell_regrown c1
      have k2 := cell_regrown c2
      refine wp_region_quiet_below (by kernel_rfl) (by kernel_rfl) ?_
      repeat (go_big_quiet_step (first | (go_at_call 23; exact Calls.regrown_of (Calls.bel (within_t _ _ _ _ (by omega)))) | (go_at_call 23; exact Calls.regrown_of (Calls.bel (within_any _ _ _ _))) | (go_at_call 31; exact Calls.regrown_of (length_any _ _ _ (by omega) (by omega) (by omega)))))
      refine wpQuiet_nil ?_
      intro _ hw'
      obtain ⟨⟨dq, osq⟩, hw''⟩ := hw'
      subst hw''
      go_wp2
      go_ret
      exact ⟨ret_bool hi.out.symm, hbW.out.trans ((below_regrown W dq osq).mono hbW.out.size)⟩
    · have hm' : m < 1 ∨ 12 < m := by omega
      have hi : Hid (isDate y m d = false) := Lib.hid (by unfold isDate; simp; omega)
      go_enter Try.func21, Try.ntmps21
      go_wp2_with fail
      generalize hW : w.alloc (.cells #[.int .i64 y, .int .i64 m, .int .i64 d] 23) = W
      have c0 : W.cell? ⟨w.heap.size, 0, none⟩ = some (.int .i64 y) := by subst hW; simp
      have c1 : W.cell? ⟨w.heap.size, 1, none⟩ = some (.int .i64 m) := by subst hW; simp
      have c2 : W.cell? ⟨w.heap.size, 2, none⟩ = some (.int .i64 d) := by subst hW; simp
      have g0 : W.frozen? ⟨w.heap.size, 0, none⟩ = false := by subst hW; simp
      have g1 : W.frozen? ⟨w.heap.size, 1, none⟩ = false := by subst hW; simp
      have g2 : W.frozen? ⟨w.heap.size, 2, none⟩ = false := by subst hW; simp
      have hbW : Hid (Below w.heap.size w W) := Lib.hid (by subst hW; exact (Below.refl _ _).alloc (Nat.le_refl _) _)
      have hzW : w.heap.size < W.heap.size := by subst hW; simp
      clear hW
      have k0 := cell_regrown c0
      have k1 := cell_regrown c1
      have k2 := cell_regrown c2
      refine wp_region_quiet_below (by kernel_rfl) (by kernel_rfl) ?_
      repeat (go_big_quiet_step (first | (go_at_call 23; exact Calls.regrown_of (Calls.bel (within_t _ _ _ _ (by omega)))) | (go_at_call 23; exact Calls.regrown_of (Calls.bel (within_f _ _ _ _ hm')))))
      refine wpQuiet_nil ?_
      intro _ hw'
      obtain ⟨⟨dq, osq⟩, hw''⟩ := hw'
      subst hw''
      go_wp2
      go_ret
      exact ⟨ret_bool hi.out.symm, hbW.out.trans ((below_regrown W dq osq).mono hbW.out.size)⟩
  · have hm' : y < 1 ∨ 9999 < y := by omega
    have hi : Hid (isDate y m d = false) := Lib.hid (by unfold isDate; simp; omega)
    go_enter Try.func21, Try.ntmps21
    go_wp2_with fail
    generalize hW : w.alloc (.cells #[.int .i64 y, .int .i64 m, .int .i64 d] 23) = W
    have c0 : W.cell? ⟨w.heap.size, 0, none⟩ = some (.int .i64 y) := by subst hW; simp
    have c1 : W.cell? ⟨w.heap.size, 1, none⟩ = some (.int .i64 m) := by subst hW; simp
    have c2 : W.cell? ⟨w.heap.size, 2, none⟩ = some (.int .i64 d) := by subst hW; simp
    have g0 : W.frozen? ⟨w.heap.size, 0, none⟩ = false := by subst hW; simp
    have g1 : W.frozen? ⟨w.heap.size, 1, none⟩ = false := by subst hW; simp
    have g2 : W.frozen? ⟨w.heap.size, 2, none⟩ = false := by subst hW; simp
    have hbW : Hid (Below w.heap.size w W) := Lib.hid (by subst hW; exact (Below.refl _ _).alloc (Nat.le_refl _) _)
    have hzW : w.heap.size < W.heap.size := by subst hW; simp
    clear hW
    have k0 := cell_regrown c0
    have k1 := cell_regrown c1
    have k2 := cell_regrown c2
    refine wp_region_quiet_below (by kernel_rfl) (by kernel_rfl) ?_
    repeat (go_big_quiet_step ((go_at_call 23; exact Calls.regrown_of (Calls.bel (within_f _ _ _ _ hm')))))
    refine wpQuiet_nil ?_
    intro _ hw'
    obtain ⟨⟨dq, osq⟩, hw''⟩ := hw'
    subst hw''
    go_wp2
    go_ret
    exact ⟨ret_bool hi.out.symm, hbW.out.trans ((below_regrown W dq osq).mono hbW.out.size)⟩

set_option maxHeartbeats 400000 in
theorem days_ok (y m d : Int) (w : World) (h : isDate y m d = true) :
    Calls Try.prog 9 #[.agg #[.int .i64 y, .int .i64 m, .int .i64 d]] w fun e w' => e = .returned (.tuple #[.int .i64 (num y m d), .int .i64 0]) ∧ Below w.heap.size w w' := by
  have hi := isDate_iff.1 h
  have hl := mlen_bd y m
  have H := Lib.hid h; clear h
  go_enter Try.func9, Try.ntmps9
  go_wp2_with fail
  generalize hW : w.alloc (.cells #[.int .i64 y, .int .i64 m, .int .i64 d] 23) = W
  have c0 : W.cell? ⟨w.heap.size, 0, none⟩ = some (.int .i64 y) := by subst hW; simp
  have c1 : W.cell? ⟨w.heap.size, 1, none⟩ = some (.int .i64 m) := by subst hW; simp
  have c2 : W.cell? ⟨w.heap.size, 2, none⟩ = some (.int .i64 d) := by subst hW; simp
  have g0 : W.frozen? ⟨w.heap.size, 0, none⟩ = false := by subst hW; simp
  have g1 : W.frozen? ⟨w.heap.size, 1, none⟩ = false := by subst hW; simp
  have g2 : W.frozen? ⟨w.heap.size, 2, none⟩ = false := by subst hW; simp
  have hbW : Hid (Below w.heap.size w W) := Lib.hid (by subst hW; exact (Below.refl _ _).alloc (Nat.le_refl _) _)
  have hzW : w.heap.size < W.heap.size := by subst hW; simp
  clear hW
  go_wp2_with fail
  refine (is_any _ _ _ _).mono ?_
  rintro e w1 ⟨rfl, hb1⟩
  rw [H.out]
  obtain ⟨bc, bf⟩ := bcell hb1
  go_wp2_with fail
  refine (number_any _ _ _ _ (by omega) (by omega) (by omega) (by omega) (by omega) (by omega)).mono ?_
  rintro e w2 ⟨rfl, hb2⟩
  go_wp2_with fail
  go_ret2
  exact ⟨rfl, hbW.out.trans ((hb1.mono (by omega)).trans (hb2.mono (by have := hb1.size; omega)))⟩

set_option maxHeartbeats 400000 in
theorem days_no (y m d : Int) (w : World) (h : isDate y m d = false) :
    Calls Try.prog 9 #[.agg #[.int .i64 y, .int .i64 m, .int .i64 d]] w fun e w' => e = .returned (.tuple #[.int .i64 0, .int .i64 3]) ∧ Below w.heap.size w w' := by
  have H := Lib.hid h; clear h
  go_enter Try.func9, Try.ntmps9
  go_wp2_with fail
  generalize hW : w.alloc (.cells #[.int .i64 y, .int .i64 m, .int .i64 d] 23) = W
  have c0 : W.cell? ⟨w.heap.size, 0, none⟩ = some (.int .i64 y) := by subst hW; simp
  have c1 : W.cell? ⟨w.heap.size, 1, none⟩ = some (.int .i64 m) := by subst hW; simp
  have c2 : W.cell? ⟨w.heap.size, 2, none⟩ = some (.int .i64 d) := by subst hW; simp
  have g0 : W.frozen? ⟨w.heap.size, 0, none⟩ = false := by subst hW; simp
  have g1 : W.frozen? ⟨w.heap.size, 1, none⟩ = false := by subst hW; simp
  have g2 : W.frozen? ⟨w.heap.size, 2, none⟩ = false := by subst hW; simp
  have hbW : Hid (Below w.heap.size w W) := Lib.hid (by subst hW; exact (Below.refl _ _).alloc (Nat.le_refl _) _)
  have hzW : w.heap.size < W.heap.size := by subst hW; simp
  clear hW
  go_wp2_with fail
  refine (is_any _ _ _ _).mono ?_
  rintro e w1 ⟨rfl, hb1⟩
  rw [H.out]
  go_wp2_with fail
  go_ret2
  exact ⟨rfl, hbW.out.trans (hb1.mono (by omega))⟩

end Go.Proofs.Ytbbhpjnifeheiaa
