/-
  Contracts of the civil package's functions from days to dates, and of forms. Conditions: those that each theorem names.
-/
import Derived.Test.YtbbhpjnifeheiaaCivB
set_option linter.unusedVariables false
set_option linter.unusedSimpArgs false
namespace Go.Proofs.Ytbbhpjnifeheiaa
open Go.RowKit Civ

set_option maxHeartbeats 400000 in
theorem first_any (w : World) :
    Calls Try.prog 24 #[] w fun e w' => e = .returned (.int .i64 (-719162)) ∧ w = w' := by
  go_enter Try.func24, Try.ntmps24
  go_wp2_with (go_at_call 33; refine (epoch_any _).mono ?_; rintro e w' ⟨rfl, rfl⟩)
  go_ret
  exact ⟨rfl, rfl⟩

set_option maxHeartbeats 400000 in
theorem last_any (w : World) :
    Calls Try.prog 25 #[] w fun e w' => e = .returned (.int .i64 2932896) ∧ w = w' := by
  have hb : Hid (bef 10000 = 3652059) := Lib.hid bef_10000
  go_enter Try.func25, Try.ntmps25
  go_wp2_with fail
  refine (before_any _ _ (by omega) (by omega)).mono ?_
  rintro e w' ⟨rfl, rfl⟩
  rw [hb.out]
  go_wp2_with (go_at_call 33; refine (epoch_any _).mono ?_; rintro e w' ⟨rfl, rfl⟩)
  go_ret
  exact ⟨rfl, rfl⟩

/-- a date as a value -/
def dv (p : Int × Int × Int) : Value := .agg #[.int .i64 p.1, .int .i64 p.2.1, .int .i64 p.2.2]

set_option maxHeartbeats 1000000 in
theorem date_any (n : Int) (w : World) (h0 : -719162 ≤ n) (h1 : n ≤ 2932896) :
    Calls Try.prog 26 #[.int .i64 n] w fun e w' => e = .returned (dv (dateOf n)) ∧ Below w.heap.size w w' := by
  have hg := guess_le (n := n + 719162) (by omega)
  go_enter Try.func26, Try.ntmps26
  go_wp2_with (go_at_call 33; refine (epoch_any _).mono ?_; rintro e w' ⟨rfl, rfl⟩)
  go_loop [4] (fun t => ∃ y : Int, 1 ≤ y ∧ y ≤ 9999 ∧ bef y ≤ n + 719162 ∧ t = .int .i64 y) (fun t => (9999 - intOf t).toNat)
  case atStart => exact ⟨_, by omega, by omega, hg, rfl⟩
  case round =>
    obtain ⟨y, hy1, hy2, hy3, rfl⟩ := hrel
    have hs := bef_succ y
    have hl := lp_01 y
    have hbd := bef_bd (y := y + 1) (by omega) (by omega)
    have hbd0 := bef_bd (y := y) (by omega) (by omega)
    by_cases hc : bef (y + 1) ≤ n + 719162
    · have hy4 : y < 9999 := by
        rcases Int.lt_or_le y 9999 with c | c
        · exact c
        · have := bef_mono (a := 10000) (b := y + 1) (by omega); rw [bef_10000] at this; omega
      have HS := Lib.hid hs; clear hs
      go_wp2_with (go_at_call 32; refine (before_any _ _ (by omega) (by omega)).mono ?_; rintro e w' ⟨rfl, rfl⟩)
      go_round
      case rel => exact ⟨y + 1, by omega, by omega, hc, rfl⟩
      case measure => simp [intOf]; omega
    · have HS := Lib.hid hs; clear hs
      go_wp2_with (go_at_call 32; refine (before_any _ _ (by omega) (by omega)).mono ?_; rintro e w' ⟨rfl, rfl⟩)
      generalize hW : w.alloc _ = W
      have hd0 : W.cell? ⟨w.heap.size, 0, none⟩ = some (.int .i64 0) := by subst hW; simp
      have hd1 : W.cell? ⟨w.heap.size, 1, none⟩ = some (.int .i64 0) := by subst hW; simp
      have hd2 : W.cell? ⟨w.heap.size, 2, none⟩ = some (.int .i64 0) := by subst hW; simp
      have hf0 : ∀ o, W.frozen? ⟨w.heap.size, o, none⟩ = false := by subst hW; intro o; simp
      have hbW : Hid (Below w.heap.size w W) := Lib.hid (by subst hW; exact (Below.refl _ _).alloc (Nat.le_refl _) _)
      have hzW : w.heap.size + 1 = W.heap.size := by subst hW; simp
      clear hW
      have HZ := Lib.hid hzW; clear hzW
      go_loopw [3, 5] (fun r k wr => ∃ m : Int, 1 ≤ m ∧ m ≤ 12 ∧ k = .int .i64 m ∧ 0 ≤ n + 719162 - bef y - cum y m ∧ r = .int .i64 (n + 719162 - bef y - cum y m) ∧ Below W.heap.size W wr) (fun _ k _ => (12 - intOf k).toNat)
      case atStart => exact ⟨1, by omega, by omega, rfl, by rw [cum_1]; omega, by rw [cum_1]; simp, Below.refl _ _⟩
      case round =>
        rename_i wr
        obtain ⟨m, hm1, hm2, rfl, hr, rfl, hb⟩ := hrel
        have hcb := cum_bd (y := y) (m := m) hm1 (by omega)
        have hml := mlen_bd y m
        have hsz := hb.size
        by_cases hlt : mlen y m ≤ n + 719162 - bef y - cum y m
        · have hcs := cum_succ (y := y) (m := m) hm1 hm2
          have hm3 : m < 12 := by
            rcases Int.lt_or_le m 12 with c | c
            · exact c
            · obtain rfl : m = 12 := by omega
              have : cum y (12 + 1) = 365 + lp y := cum_13 y
              have := HS.out; omega
          have HC := Lib.hid hcs; clear hcs
          go_wp2_with fail
          refine (length_any _ _ _ (by omega) hm1 (by omega)).mono ?_
          rintro e w1 ⟨rfl, hb1⟩
          have hz1 := hb1.size
          go_wp2_with fail
          refine (length_any _ _ _ (by omega) hm1 (by omega)).mono ?_
          rintro e w2 ⟨rfl, hb2⟩
          go_wp2_with fail
          go_roundw
          case rel => exact ⟨m + 1, by omega, by omega, by go_num, by rw [HC.out]; omega, by rw [HC.out]; go_num, hb.trans ((hb1.mono (by omega)).trans (hb2.mono (by omega)))⟩
          case measure => simp [intOf]; omega
        · have hd : isDate y m (n + 719162 - bef y - cum y m + 1) = true := by rw [isDate_iff]; omega
          have hdn : num y m (n + 719162 - bef y - cum y m + 1) = n := by unfold num; omega
          have HD := Lib.hid (dateOf_eq hd hdn); clear hd hdn
          go_wp2_with fail
          refine (length_any _ _ _ (by omega) hm1 (by omega)).mono ?_
          rintro e w1 ⟨rfl, hb1⟩
          have hz1 := hb1.size
          have hlt := Nat.lt_of_lt_of_le (show w.heap.size < W.heap.size by have := HZ.out; omega) (Nat.le_refl _)
          have hB := hb.trans (hb1.mono hsz)
          have e0 : w1.cell? ⟨w.heap.size, 0, none⟩ = some (.int .i64 0) := by rw [hB.cell hlt]; exact hd0
          have e1 : w1.cell? ⟨w.heap.size, 1, none⟩ = some (.int .i64 0) := by rw [hB.cell hlt]; exact hd1
          have e2 : w1.cell? ⟨w.heap.size, 2, none⟩ = some (.int .i64 0) := by rw [hB.cell hlt]; exact hd2
          have f0 : w1.frozen? ⟨w.heap.size, 0, none⟩ = false := by rw [hB.frozen hlt]; exact hf0 0
          have f1 : w1.frozen? ⟨w.heap.size, 1, none⟩ = false := by rw [hB.frozen hlt]; exact hf0 1
          have f2 : w1.frozen? ⟨w.heap.size, 2, none⟩ = false := by rw [hB.frozen hlt]; exact hf0 2
          clear hd0 hd1 hd2 hf0
          go_wp2_with fail
          refine bodyPost_ret (v := .agg #[.int .i64 y, .int .i64 m, .int .i64 (n + 719162 - bef y - cum y m + 1)]) (by simp [results, Try.results26, go_sem, e0, e1, e2]) rfl ⟨by rw [HD.out]; rfl, ?_⟩
          exact ((((hbW.out.trans (hB.mono (by omega))).setCell (by simp) _).setCell (by simp) _).setCell (by simp) _)

set_option maxHeartbeats 400000 in
theorem of_ok (n : Int) (w : World) (h0 : -719162 ≤ n) (h1 : n ≤ 2932896) :
    Calls Try.prog 12 #[.int .i64 n] w fun e w' => e = .returned (.tuple #[dv (dateOf n), .int .i64 0]) ∧ Below w.heap.size w w' := by
  obtain ⟨y, m, d, hp⟩ : ∃ y m d, dateOf n = (y, m, d) := ⟨_, _, _, rfl⟩
  have HP := Lib.hid hp; clear hp
  go_enter Try.func12, Try.ntmps12
  go_wp2_with (first | (go_at_call 24; refine (first_any _).mono ?_; rintro e w' ⟨rfl, rfl⟩) | (go_at_call 25; refine (last_any _).mono ?_; rintro e w' ⟨rfl, rfl⟩) | (go_at_call 23; refine (within_t _ _ _ _ (by omega)).mono ?_; rintro e w' ⟨rfl, rfl⟩))
  generalize hW : w.alloc (.cells #[.int .i64 0, .int .i64 0, .int .i64 0] 23) = W
  have c0 : W.cell? ⟨w.heap.size, 0, none⟩ = some (.int .i64 0) := by subst hW; simp
  have c1 : W.cell? ⟨w.heap.size, 1, none⟩ = some (.int .i64 0) := by subst hW; simp
  have c2 : W.cell? ⟨w.heap.size, 2, none⟩ = some (.int .i64 0) := by subst hW; simp
  have g0 : W.frozen? ⟨w.heap.size, 0, none⟩ = false := by subst hW; simp
  have g1 : W.frozen? ⟨w.heap.size, 1, none⟩ = false := by subst hW; simp
  have g2 : W.frozen? ⟨w.heap.size, 2, none⟩ = false := by subst hW; simp
  have hbW : Hid (Below w.heap.size w W) := Lib.hid (by subst hW; exact (Below.refl _ _).alloc (Nat.le_refl _) _)
  have hzW : w.heap.size < W.heap.size := by subst hW; simp
  clear hW
  refine (date_any _ _ h0 h1).mono ?_
  rintro e w1 ⟨rfl, hb1⟩
  rw [HP.out]
  dsimp only [dv]
  have d0 := (hb1.cell (p := ⟨w.heap.size, 0, none⟩) (by first | assumption | simp | omega)).trans c0
  have d1 := (hb1.cell (p := ⟨w.heap.size, 1, none⟩) (by first | assumption | simp | omega)).trans c1
  have d2 := (hb1.cell (p := ⟨w.heap.size, 2, none⟩) (by first | assumption | simp | omega)).trans c2
  have k0 := (hb1.frozen (p := ⟨w.heap.size, 0, none⟩) (by first | assumption | simp | omega)).trans g0
  have k1 := (hb1.frozen (p := ⟨w.heap.size, 1, none⟩) (by first | assumption | simp | omega)).trans g1
  have k2 := (hb1.frozen (p := ⟨w.heap.size, 2, none⟩) (by first | assumption | simp | omega)).trans g2
  have w1z := Nat.lt_of_lt_of_le (show w.heap.size < W.heap.size by first | assumption | omega) hb1.size
  go_wp2_with fail
  refine bodyPost_ret (v := .tuple #[.agg #[.int .i64 y, .int .i64 m, .int .i64 d], .int .i64 0]) (by simp [results, Try.results12, go_sem, d0, d1, d2]) rfl ⟨by rw [HP.out]; rfl, ?_⟩
  exact ((((hbW.out.trans (hb1.mono (by omega))).setCell (by simp) _).setCell (by simp) _).setCell (by simp) _)

theorem of_no (n : Int) (w : World) (h : n < -719162 ∨ 2932896 < n) :
    Calls Try.prog 12 #[.int .i64 n] w fun e w' => e = .returned (.tuple #[dv (0, 0, 0), .int .i64 3]) ∧ Below w.heap.size w w' := by
  go_enter Try.func12, Try.ntmps12
  go_wp2_with (first | (go_at_call 24; refine (first_any _).mono ?_; rintro e w' ⟨rfl, rfl⟩) | (go_at_call 25; refine (last_any _).mono ?_; rintro e w' ⟨rfl, rfl⟩) | (go_at_call 23; refine (within_f _ _ _ _ (by omega)).mono ?_; rintro e w' ⟨rfl, rfl⟩))
  refine bodyPost_ret (v := .tuple #[.agg #[.int .i64 0, .int .i64 0, .int .i64 0], .int .i64 3]) (by simp [results, Try.results12, go_sem]) rfl ⟨rfl, ?_⟩
  exact (Below.refl _ _).alloc (Nat.le_refl _) _

end Go.Proofs.Ytbbhpjnifeheiaa
