/-
  CivilForm answers true, whatever year, month and form it is handed, and leaves them as they were. No condition.
-/
import Derived.Test.YtbbhpjnifeheiaaLawCivA
import Derived.Test.YtbbhpjnifeheiaaOpenCiv
set_option linter.unusedVariables false
set_option linter.unusedSimpArgs false
namespace Go.Proofs.Ytbbhpjnifeheiaa.civilForm
open Go.ChangeShapes Go.WideShapes Go.ChangeAt Go.RowKit Go.Sort Civ

theorem wd_fwd {n k : Int} (hk : 0 ≤ k ∧ k ≤ 6) : wd (fwd n k) = k := by unfold fwd wd at *; omega
theorem wd_bwd {n k : Int} (hk : 0 ≤ k ∧ k ≤ 6) : wd (bwd n k) = k := by unfold bwd wd at *; omega
theorem fwd_bd (n k : Int) : n ≤ fwd n k ∧ fwd n k < n + 7 := by unfold fwd; omega
theorem bwd_bd (n k : Int) : bwd n k ≤ n ∧ n - 7 < bwd n k := by unfold bwd; omega

set_option maxHeartbeats 1000000 in
theorem walk_no (y m kind wk n k : Int) (w : World) (hp : onV y m kind wk n = ((0, 0, 0), k)) (hk : k ≠ 0) :
    Calls Try.prog 8 #[.int .i64 y, .int .i64 m, .agg #[.int .i64 kind, .int .i64 wk, .int .i64 n]] w fun e w' => e = .returned (.bool true) ∧ Below w.heap.size w w' := by
  have hbW : Hid (Below w.heap.size w w) := Lib.hid (Below.refl _ _)
  have hkb : (k == 0) = false := by simpa using hk
  have HP := Lib.hid hp; clear hp
  go_enter Try.func8, Try.ntmps8
  go_wp2_with (go_step)
  generalize hW_ : w.alloc (.cells #[.int .i64 kind, .int .i64 wk, .int .i64 n] 38) = W
  have a0 : W.cell? ⟨w.heap.size, 0, none⟩ = some (.int .i64 kind) := by subst hW_; simp
  have af0 : W.frozen? ⟨w.heap.size, 0, none⟩ = false := by subst hW_; simp
  have a1 : W.cell? ⟨w.heap.size, 1, none⟩ = some (.int .i64 wk) := by subst hW_; simp
  have af1 : W.frozen? ⟨w.heap.size, 1, none⟩ = false := by subst hW_; simp
  have a2 : W.cell? ⟨w.heap.size, 2, none⟩ = some (.int .i64 n) := by subst hW_; simp
  have af2 : W.frozen? ⟨w.heap.size, 2, none⟩ = false := by subst hW_; simp
  have lwa := hbW.out.size
  have hb_ : Below w.heap.size w W := by subst hW_; exact (Below.refl _ _).alloc (Nat.le_refl _) _
  have hza : w.heap.size < W.heap.size := by subst hW_; simp
  clear hW_
  replace hbW := Lib.hid (hbW.out.trans (hb_.mono hbW.out.size))
  clear hb_
  refine (on_any _ _ _ _ _ _).mono ?_
  rintro e w1 ⟨rfl, hb1⟩
  rw [HP.out]
  dsimp only [dv]
  replace a0 := (hb1.cell (p := ⟨w.heap.size, 0, none⟩) hza).trans a0
  replace af0 := (hb1.frozen (p := ⟨w.heap.size, 0, none⟩) hza).trans af0
  replace a1 := (hb1.cell (p := ⟨w.heap.size, 1, none⟩) hza).trans a1
  replace af1 := (hb1.frozen (p := ⟨w.heap.size, 1, none⟩) hza).trans af1
  replace a2 := (hb1.cell (p := ⟨w.heap.size, 2, none⟩) hza).trans a2
  replace af2 := (hb1.frozen (p := ⟨w.heap.size, 2, none⟩) hza).trans af2
  replace hza := Nat.lt_of_lt_of_le hza hb1.size
  replace hbW := Lib.hid (hbW.out.trans (hb1.mono hbW.out.size))
  go_wp2_with (go_step)
  generalize hW_ : w1.alloc (.cells #[.int .i64 0, .int .i64 0, .int .i64 0] 23) = V
  have b0 : V.cell? ⟨w1.heap.size, 0, none⟩ = some (.int .i64 0) := by subst hW_; simp
  have bf0 : V.frozen? ⟨w1.heap.size, 0, none⟩ = false := by subst hW_; simp
  have b1 : V.cell? ⟨w1.heap.size, 1, none⟩ = some (.int .i64 0) := by subst hW_; simp
  have bf1 : V.frozen? ⟨w1.heap.size, 1, none⟩ = false := by subst hW_; simp
  have b2 : V.cell? ⟨w1.heap.size, 2, none⟩ = some (.int .i64 0) := by subst hW_; simp
  have bf2 : V.frozen? ⟨w1.heap.size, 2, none⟩ = false := by subst hW_; simp
  have lwb := hbW.out.size
  have lab := hza
  have hb_ : Below w1.heap.size w1 V := by subst hW_; exact (Below.refl _ _).alloc (Nat.le_refl _) _
  have hzb : w1.heap.size < V.heap.size := by subst hW_; simp
  clear hW_
  replace a0 := (hb_.cell (p := ⟨w.heap.size, 0, none⟩) hza).trans a0
  replace af0 := (hb_.frozen (p := ⟨w.heap.size, 0, none⟩) hza).trans af0
  replace a1 := (hb_.cell (p := ⟨w.heap.size, 1, none⟩) hza).trans a1
  replace af1 := (hb_.frozen (p := ⟨w.heap.size, 1, none⟩) hza).trans af1
  replace a2 := (hb_.cell (p := ⟨w.heap.size, 2, none⟩) hza).trans a2
  replace af2 := (hb_.frozen (p := ⟨w.heap.size, 2, none⟩) hza).trans af2
  replace hza := Nat.lt_of_lt_of_le hza hb_.size
  replace hbW := Lib.hid (hbW.out.trans (hb_.mono hbW.out.size))
  clear hb_
  refine (civilBegun_any _).mono ?_
  rintro e w2 ⟨rfl, hb2⟩
  replace a0 := (hb2.cell (p := ⟨w.heap.size, 0, none⟩) hza).trans a0
  replace af0 := (hb2.frozen (p := ⟨w.heap.size, 0, none⟩) hza).trans af0
  replace a1 := (hb2.cell (p := ⟨w.heap.size, 1, none⟩) hza).trans a1
  replace af1 := (hb2.frozen (p := ⟨w.heap.size, 1, none⟩) hza).trans af1
  replace a2 := (hb2.cell (p := ⟨w.heap.size, 2, none⟩) hza).trans a2
  replace af2 := (hb2.frozen (p := ⟨w.heap.size, 2, none⟩) hza).trans af2
  replace hza := Nat.lt_of_lt_of_le hza hb2.size
  replace b0 := (hb2.cell (p := ⟨w1.heap.size, 0, none⟩) hzb).trans b0
  replace bf0 := (hb2.frozen (p := ⟨w1.heap.size, 0, none⟩) hzb).trans bf0
  replace b1 := (hb2.cell (p := ⟨w1.heap.size, 1, none⟩) hzb).trans b1
  replace bf1 := (hb2.frozen (p := ⟨w1.heap.size, 1, none⟩) hzb).trans bf1
  replace b2 := (hb2.cell (p := ⟨w1.heap.size, 2, none⟩) hzb).trans b2
  replace bf2 := (hb2.frozen (p := ⟨w1.heap.size, 2, none⟩) hzb).trans bf2
  replace hzb := Nat.lt_of_lt_of_le hzb hb2.size
  replace hbW := Lib.hid (hbW.out.trans (hb2.mono hbW.out.size))
  go_wp2_with (go_step)
  go_ret
  exact ⟨ret_bool (by simp), hbW.out⟩

set_option maxHeartbeats 1000000 in
theorem walk_1 (y m n : Int) (w : World) (hy : 1 ≤ y ∧ y ≤ 9999) (hm : 1 ≤ m ∧ m ≤ 12) (hn : 1 ≤ n ∧ n ≤ mlen y m) (hp : onV y m 1 0 n = ((y, m, n), 0)) :
    Calls Try.prog 8 #[.int .i64 y, .int .i64 m, .agg #[.int .i64 1, .int .i64 0, .int .i64 n]] w fun e w' => e = .returned (.bool true) ∧ Below w.heap.size w w' := by
  have h2' : Hid (isDate y m n = true) := Lib.hid (isDate_iff.2 ⟨hy.1, hy.2, hm.1, hm.2, hn.1, hn.2⟩)
  have HN : Hid (num y m n = num y m 1 + n - 1) := Lib.hid (by unfold num; omega)
  have hbW : Hid (Below w.heap.size w w) := Lib.hid (Below.refl _ _)
  have hl := mlen_bd y m
  have hb1x := num_bd (isDate_iff.2 ⟨hy.1, hy.2, hm.1, hm.2, by omega, by omega⟩ : isDate y m 1 = true)
  have hb2x := num_bd h2'.out
  have HP := Lib.hid hp; clear hp
  go_enter Try.func8, Try.ntmps8
  go_wp2_with (go_step)
  generalize hW_ : w.alloc (.cells #[.int .i64 1, .int .i64 0, .int .i64 n] 38) = W
  have a0 : W.cell? ⟨w.heap.size, 0, none⟩ = some (.int .i64 1) := by subst hW_; simp
  have af0 : W.frozen? ⟨w.heap.size, 0, none⟩ = false := by subst hW_; simp
  have a1 : W.cell? ⟨w.heap.size, 1, none⟩ = some (.int .i64 0) := by subst hW_; simp
  have af1 : W.frozen? ⟨w.heap.size, 1, none⟩ = false := by subst hW_; simp
  have a2 : W.cell? ⟨w.heap.size, 2, none⟩ = some (.int .i64 n) := by subst hW_; simp
  have af2 : W.frozen? ⟨w.heap.size, 2, none⟩ = false := by subst hW_; simp
  have lwa := hbW.out.size
  have hb_ : Below w.heap.size w W := by subst hW_; exact (Below.refl _ _).alloc (Nat.le_refl _) _
  have hza : w.heap.size < W.heap.size := by subst hW_; simp
  clear hW_
  replace hbW := Lib.hid (hbW.out.trans (hb_.mono hbW.out.size))
  clear hb_
  refine (on_any _ _ _ _ _ _).mono ?_
  rintro e w1 ⟨rfl, hb1⟩
  rw [HP.out]
  dsimp only [dv]
  replace a0 := (hb1.cell (p := ⟨w.heap.size, 0, none⟩) hza).trans a0
  replace af0 := (hb1.frozen (p := ⟨w.heap.size, 0, none⟩) hza).trans af0
  replace a1 := (hb1.cell (p := ⟨w.heap.size, 1, none⟩) hza).trans a1
  replace af1 := (hb1.frozen (p := ⟨w.heap.size, 1, none⟩) hza).trans af1
  replace a2 := (hb1.cell (p := ⟨w.heap.size, 2, none⟩) hza).trans a2
  replace af2 := (hb1.frozen (p := ⟨w.heap.size, 2, none⟩) hza).trans af2
  replace hza := Nat.lt_of_lt_of_le hza hb1.size
  replace hbW := Lib.hid (hbW.out.trans (hb1.mono hbW.out.size))
  go_wp2_with (go_step)
  generalize hW_ : w1.alloc (.cells #[.int .i64 y, .int .i64 m, .int .i64 n] 23) = V
  have b0 : V.cell? ⟨w1.heap.size, 0, none⟩ = some (.int .i64 y) := by subst hW_; simp
  have bf0 : V.frozen? ⟨w1.heap.size, 0, none⟩ = false := by subst hW_; simp
  have b1 : V.cell? ⟨w1.heap.size, 1, none⟩ = some (.int .i64 m) := by subst hW_; simp
  have bf1 : V.frozen? ⟨w1.heap.size, 1, none⟩ = false := by subst hW_; simp
  have b2 : V.cell? ⟨w1.heap.size, 2, none⟩ = some (.int .i64 n) := by subst hW_; simp
  have bf2 : V.frozen? ⟨w1.heap.size, 2, none⟩ = false := by subst hW_; simp
  have lwb := hbW.out.size
  have lab := hza
  have hb_ : Below w1.heap.size w1 V := by subst hW_; exact (Below.refl _ _).alloc (Nat.le_refl _) _
  have hzb : w1.heap.size < V.heap.size := by subst hW_; simp
  clear hW_
  replace a0 := (hb_.cell (p := ⟨w.heap.size, 0, none⟩) hza).trans a0
  replace af0 := (hb_.frozen (p := ⟨w.heap.size, 0, none⟩) hza).trans af0
  replace a1 := (hb_.cell (p := ⟨w.heap.size, 1, none⟩) hza).trans a1
  replace af1 := (hb_.frozen (p := ⟨w.heap.size, 1, none⟩) hza).trans af1
  replace a2 := (hb_.cell (p := ⟨w.heap.size, 2, none⟩) hza).trans a2
  replace af2 := (hb_.frozen (p := ⟨w.heap.size, 2, none⟩) hza).trans af2
  replace hza := Nat.lt_of_lt_of_le hza hb_.size
  replace hbW := Lib.hid (hbW.out.trans (hb_.mono hbW.out.size))
  clear hb_
  refine (civilBegun_any _).mono ?_
  rintro e w2 ⟨rfl, hb2⟩
  replace a0 := (hb2.cell (p := ⟨w.heap.size, 0, none⟩) hza).trans a0
  replace af0 := (hb2.frozen (p := ⟨w.heap.size, 0, none⟩) hza).trans af0
  replace a1 := (hb2.cell (p := ⟨w.heap.size, 1, none⟩) hza).trans a1
  replace af1 := (hb2.frozen (p := ⟨w.heap.size, 1, none⟩) hza).trans af1
  replace a2 := (hb2.cell (p := ⟨w.heap.size, 2, none⟩) hza).trans a2
  replace af2 := (hb2.frozen (p := ⟨w.heap.size, 2, none⟩) hza).trans af2
  replace hza := Nat.lt_of_lt_of_le hza hb2.size
  replace b0 := (hb2.cell (p := ⟨w1.heap.size, 0, none⟩) hzb).trans b0
  replace bf0 := (hb2.frozen (p := ⟨w1.heap.size, 0, none⟩) hzb).trans bf0
  replace b1 := (hb2.cell (p := ⟨w1.heap.size, 1, none⟩) hzb).trans b1
  replace bf1 := (hb2.frozen (p := ⟨w1.heap.size, 1, none⟩) hzb).trans bf1
  replace b2 := (hb2.cell (p := ⟨w1.heap.size, 2, none⟩) hzb).trans b2
  replace bf2 := (hb2.frozen (p := ⟨w1.heap.size, 2, none⟩) hzb).trans bf2
  replace hzb := Nat.lt_of_lt_of_le hzb hb2.size
  replace hbW := Lib.hid (hbW.out.trans (hb2.mono hbW.out.size))
  go_wp2_with (go_step)
  refine (days_ok _ _ _ _ h2'.out).mono ?_
  rintro e w3 ⟨rfl, hb3⟩
  try rw [HN.out]
  replace a0 := (hb3.cell (p := ⟨w.heap.size, 0, none⟩) hza).trans a0
  replace af0 := (hb3.frozen (p := ⟨w.heap.size, 0, none⟩) hza).trans af0
  replace a1 := (hb3.cell (p := ⟨w.heap.size, 1, none⟩) hza).trans a1
  replace af1 := (hb3.frozen (p := ⟨w.heap.size, 1, none⟩) hza).trans af1
  replace a2 := (hb3.cell (p := ⟨w.heap.size, 2, none⟩) hza).trans a2
  replace af2 := (hb3.frozen (p := ⟨w.heap.size, 2, none⟩) hza).trans af2
  replace hza := Nat.lt_of_lt_of_le hza hb3.size
  replace b0 := (hb3.cell (p := ⟨w1.heap.size, 0, none⟩) hzb).trans b0
  replace bf0 := (hb3.frozen (p := ⟨w1.heap.size, 0, none⟩) hzb).trans bf0
  replace b1 := (hb3.cell (p := ⟨w1.heap.size, 1, none⟩) hzb).trans b1
  replace bf1 := (hb3.frozen (p := ⟨w1.heap.size, 1, none⟩) hzb).trans bf1
  replace b2 := (hb3.cell (p := ⟨w1.heap.size, 2, none⟩) hzb).trans b2
  replace bf2 := (hb3.frozen (p := ⟨w1.heap.size, 2, none⟩) hzb).trans bf2
  replace hzb := Nat.lt_of_lt_of_le hzb hb3.size
  replace hbW := Lib.hid (hbW.out.trans (hb3.mono hbW.out.size))
  go_wp2_with (go_step)
  refine (days_ok _ _ _ _ (isDate_iff.2 ⟨hy.1, hy.2, hm.1, hm.2, by omega, by omega⟩)).mono ?_
  rintro e w4 ⟨rfl, hb4⟩
  replace a0 := (hb4.cell (p := ⟨w.heap.size, 0, none⟩) hza).trans a0
  replace af0 := (hb4.frozen (p := ⟨w.heap.size, 0, none⟩) hza).trans af0
  replace a1 := (hb4.cell (p := ⟨w.heap.size, 1, none⟩) hza).trans a1
  replace af1 := (hb4.frozen (p := ⟨w.heap.size, 1, none⟩) hza).trans af1
  replace a2 := (hb4.cell (p := ⟨w.heap.size, 2, none⟩) hza).trans a2
  replace af2 := (hb4.frozen (p := ⟨w.heap.size, 2, none⟩) hza).trans af2
  replace hza := Nat.lt_of_lt_of_le hza hb4.size
  replace b0 := (hb4.cell (p := ⟨w1.heap.size, 0, none⟩) hzb).trans b0
  replace bf0 := (hb4.frozen (p := ⟨w1.heap.size, 0, none⟩) hzb).trans bf0
  replace b1 := (hb4.cell (p := ⟨w1.heap.size, 1, none⟩) hzb).trans b1
  replace bf1 := (hb4.frozen (p := ⟨w1.heap.size, 1, none⟩) hzb).trans bf1
  replace b2 := (hb4.cell (p := ⟨w1.heap.size, 2, none⟩) hzb).trans b2
  replace bf2 := (hb4.frozen (p := ⟨w1.heap.size, 2, none⟩) hzb).trans bf2
  replace hzb := Nat.lt_of_lt_of_le hzb hb4.size
  replace hbW := Lib.hid (hbW.out.trans (hb4.mono hbW.out.size))
  go_wp2_with (go_step)
  go_ret
  exact ⟨ret_bool (by simp), hbW.out⟩

set_option maxHeartbeats 1000000 in
theorem walk_2 (y m wk d' : Int) (w : World) (hy : 1 ≤ y ∧ y ≤ 9999) (hm : 1 ≤ m ∧ m ≤ 12) (hw : 0 ≤ wk ∧ wk ≤ 6) (hd : 21 < d' ∧ d' ≤ mlen y m) (hwd : wd (num y m d') = wk) (hp : onV y m 2 wk 0 = ((y, m, d'), 0)) :
    Calls Try.prog 8 #[.int .i64 y, .int .i64 m, .agg #[.int .i64 2, .int .i64 wk, .int .i64 0]] w fun e w' => e = .returned (.bool true) ∧ Below w.heap.size w w' := by
  have h2' : Hid (isDate y m d' = true) := Lib.hid (isDate_iff.2 ⟨hy.1, hy.2, hm.1, hm.2, by omega, hd.2⟩)
  have HN : Hid (num y m d' = num y m d') := Lib.hid rfl
  have hq := Lib.hid hwd; clear hwd
  have hbW : Hid (Below w.heap.size w w) := Lib.hid (Below.refl _ _)
  have hl := mlen_bd y m
  have hb1x := num_bd (isDate_iff.2 ⟨hy.1, hy.2, hm.1, hm.2, by omega, by omega⟩ : isDate y m 1 = true)
  have hb2x := num_bd h2'.out
  have HP := Lib.hid hp; clear hp
  go_enter Try.func8, Try.ntmps8
  go_wp2_with (go_step)
  generalize hW_ : w.alloc (.cells #[.int .i64 2, .int .i64 wk, .int .i64 0] 38) = W
  have a0 : W.cell? ⟨w.heap.size, 0, none⟩ = some (.int .i64 2) := by subst hW_; simp
  have af0 : W.frozen? ⟨w.heap.size, 0, none⟩ = false := by subst hW_; simp
  have a1 : W.cell? ⟨w.heap.size, 1, none⟩ = some (.int .i64 wk) := by subst hW_; simp
  have af1 : W.frozen? ⟨w.heap.size, 1, none⟩ = false := by subst hW_; simp
  have a2 : W.cell? ⟨w.heap.size, 2, none⟩ = some (.int .i64 0) := by subst hW_; simp
  have af2 : W.frozen? ⟨w.heap.size, 2, none⟩ = false := by subst hW_; simp
  have lwa := hbW.out.size
  have hb_ : Below w.heap.size w W := by subst hW_; exact (Below.refl _ _).alloc (Nat.le_refl _) _
  have hza : w.heap.size < W.heap.size := by subst hW_; simp
  clear hW_
  replace hbW := Lib.hid (hbW.out.trans (hb_.mono hbW.out.size))
  clear hb_
  refine (on_any _ _ _ _ _ _).mono ?_
  rintro e w1 ⟨rfl, hb1⟩
  rw [HP.out]
  dsimp only [dv]
  replace a0 := (hb1.cell (p := ⟨w.heap.size, 0, none⟩) hza).trans a0
  replace af0 := (hb1.frozen (p := ⟨w.heap.size, 0, none⟩) hza).trans af0
  replace a1 := (hb1.cell (p := ⟨w.heap.size, 1, none⟩) hza).trans a1
  replace af1 := (hb1.frozen (p := ⟨w.heap.size, 1, none⟩) hza).trans af1
  replace a2 := (hb1.cell (p := ⟨w.heap.size, 2, none⟩) hza).trans a2
  replace af2 := (hb1.frozen (p := ⟨w.heap.size, 2, none⟩) hza).trans af2
  replace hza := Nat.lt_of_lt_of_le hza hb1.size
  replace hbW := Lib.hid (hbW.out.trans (hb1.mono hbW.out.size))
  go_wp2_with (go_step)
  generalize hW_ : w1.alloc (.cells #[.int .i64 y, .int .i64 m, .int .i64 d'] 23) = V
  have b0 : V.cell? ⟨w1.heap.size, 0, none⟩ = some (.int .i64 y) := by subst hW_; simp
  have bf0 : V.frozen? ⟨w1.heap.size, 0, none⟩ = false := by subst hW_; simp
  have b1 : V.cell? ⟨w1.heap.size, 1, none⟩ = some (.int .i64 m) := by subst hW_; simp
  have bf1 : V.frozen? ⟨w1.heap.size, 1, none⟩ = false := by subst hW_; simp
  have b2 : V.cell? ⟨w1.heap.size, 2, none⟩ = some (.int .i64 d') := by subst hW_; simp
  have bf2 : V.frozen? ⟨w1.heap.size, 2, none⟩ = false := by subst hW_; simp
  have lwb := hbW.out.size
  have lab := hza
  have hb_ : Below w1.heap.size w1 V := by subst hW_; exact (Below.refl _ _).alloc (Nat.le_refl _) _
  have hzb : w1.heap.size < V.heap.size := by subst hW_; simp
  clear hW_
  replace a0 := (hb_.cell (p := ⟨w.heap.size, 0, none⟩) hza).trans a0
  replace af0 := (hb_.frozen (p := ⟨w.heap.size, 0, none⟩) hza).trans af0
  replace a1 := (hb_.cell (p := ⟨w.heap.size, 1, none⟩) hza).trans a1
  replace af1 := (hb_.frozen (p := ⟨w.heap.size, 1, none⟩) hza).trans af1
  replace a2 := (hb_.cell (p := ⟨w.heap.size, 2, none⟩) hza).trans a2
  replace af2 := (hb_.frozen (p := ⟨w.heap.size, 2, none⟩) hza).trans af2
  replace hza := Nat.lt_of_lt_of_le hza hb_.size
  replace hbW := Lib.hid (hbW.out.trans (hb_.mono hbW.out.size))
  clear hb_
  refine (civilBegun_any _).mono ?_
  rintro e w2 ⟨rfl, hb2⟩
  replace a0 := (hb2.cell (p := ⟨w.heap.size, 0, none⟩) hza).trans a0
  replace af0 := (hb2.frozen (p := ⟨w.heap.size, 0, none⟩) hza).trans af0
  replace a1 := (hb2.cell (p := ⟨w.heap.size, 1, none⟩) hza).trans a1
  replace af1 := (hb2.frozen (p := ⟨w.heap.size, 1, none⟩) hza).trans af1
  replace a2 := (hb2.cell (p := ⟨w.heap.size, 2, none⟩) hza).trans a2
  replace af2 := (hb2.frozen (p := ⟨w.heap.size, 2, none⟩) hza).trans af2
  replace hza := Nat.lt_of_lt_of_le hza hb2.size
  replace b0 := (hb2.cell (p := ⟨w1.heap.size, 0, none⟩) hzb).trans b0
  replace bf0 := (hb2.frozen (p := ⟨w1.heap.size, 0, none⟩) hzb).trans bf0
  replace b1 := (hb2.cell (p := ⟨w1.heap.size, 1, none⟩) hzb).trans b1
  replace bf1 := (hb2.frozen (p := ⟨w1.heap.size, 1, none⟩) hzb).trans bf1
  replace b2 := (hb2.cell (p := ⟨w1.heap.size, 2, none⟩) hzb).trans b2
  replace bf2 := (hb2.frozen (p := ⟨w1.heap.size, 2, none⟩) hzb).trans bf2
  replace hzb := Nat.lt_of_lt_of_le hzb hb2.size
  replace hbW := Lib.hid (hbW.out.trans (hb2.mono hbW.out.size))
  go_wp2_with (go_step)
  refine (days_ok _ _ _ _ h2'.out).mono ?_
  rintro e w3 ⟨rfl, hb3⟩
  try rw [HN.out]
  replace a0 := (hb3.cell (p := ⟨w.heap.size, 0, none⟩) hza).trans a0
  replace af0 := (hb3.frozen (p := ⟨w.heap.size, 0, none⟩) hza).trans af0
  replace a1 := (hb3.cell (p := ⟨w.heap.size, 1, none⟩) hza).trans a1
  replace af1 := (hb3.frozen (p := ⟨w.heap.size, 1, none⟩) hza).trans af1
  replace a2 := (hb3.cell (p := ⟨w.heap.size, 2, none⟩) hza).trans a2
  replace af2 := (hb3.frozen (p := ⟨w.heap.size, 2, none⟩) hza).trans af2
  replace hza := Nat.lt_of_lt_of_le hza hb3.size
  replace b0 := (hb3.cell (p := ⟨w1.heap.size, 0, none⟩) hzb).trans b0
  replace bf0 := (hb3.frozen (p := ⟨w1.heap.size, 0, none⟩) hzb).trans bf0
  replace b1 := (hb3.cell (p := ⟨w1.heap.size, 1, none⟩) hzb).trans b1
  replace bf1 := (hb3.frozen (p := ⟨w1.heap.size, 1, none⟩) hzb).trans bf1
  replace b2 := (hb3.cell (p := ⟨w1.heap.size, 2, none⟩) hzb).trans b2
  replace bf2 := (hb3.frozen (p := ⟨w1.heap.size, 2, none⟩) hzb).trans bf2
  replace hzb := Nat.lt_of_lt_of_le hzb hb3.size
  replace hbW := Lib.hid (hbW.out.trans (hb3.mono hbW.out.size))
  go_wp2_with (go_step)
  refine (days_ok _ _ _ _ (isDate_iff.2 ⟨hy.1, hy.2, hm.1, hm.2, by omega, by omega⟩)).mono ?_
  rintro e w4 ⟨rfl, hb4⟩
  replace a0 := (hb4.cell (p := ⟨w.heap.size, 0, none⟩) hza).trans a0
  replace af0 := (hb4.frozen (p := ⟨w.heap.size, 0, none⟩) hza).trans af0
  replace a1 := (hb4.cell (p := ⟨w.heap.size, 1, none⟩) hza).trans a1
  replace af1 := (hb4.frozen (p := ⟨w.heap.size, 1, none⟩) hza).trans af1
  replace a2 := (hb4.cell (p := ⟨w.heap.size, 2, none⟩) hza).trans a2
  replace af2 := (hb4.frozen (p := ⟨w.heap.size, 2, none⟩) hza).trans af2
  replace hza := Nat.lt_of_lt_of_le hza hb4.size
  replace b0 := (hb4.cell (p := ⟨w1.heap.size, 0, none⟩) hzb).trans b0
  replace bf0 := (hb4.frozen (p := ⟨w1.heap.size, 0, none⟩) hzb).trans bf0
  replace b1 := (hb4.cell (p := ⟨w1.heap.size, 1, none⟩) hzb).trans b1
  replace bf1 := (hb4.frozen (p := ⟨w1.heap.size, 1, none⟩) hzb).trans bf1
  replace b2 := (hb4.cell (p := ⟨w1.heap.size, 2, none⟩) hzb).trans b2
  replace bf2 := (hb4.frozen (p := ⟨w1.heap.size, 2, none⟩) hzb).trans bf2
  replace hzb := Nat.lt_of_lt_of_le hzb hb4.size
  replace hbW := Lib.hid (hbW.out.trans (hb4.mono hbW.out.size))
  go_wp2_with (go_step)
  have a0' := cell_regrown a0
  have a1' := cell_regrown a1
  have a2' := cell_regrown a2
  have b0' := cell_regrown b0
  have b1' := cell_regrown b1
  have b2' := cell_regrown b2
  have hwq : ∀ w, Calls Try.prog 11 #[.int .i64 (num y m d')] w fun e w' => e = .returned (.int .i64 wk) ∧ w = w' := fun w => by have := weekday_any (num y m d') w; rw [hq.out] at this; exact this
  have HWQ := Lib.hid hwq; clear hwq
  refine wp_region_quiet_below (by kernel_rfl) (by kernel_rfl) ?_
  repeat (go_big_quiet_step ((go_at_call 11; exact Calls.regrown_of (Calls.bel (HWQ.out _)))))
  refine wpQuiet_nil ?_
  intro _ hw'
  obtain ⟨⟨dq, osq⟩, hw''⟩ := hw'
  subst hw''
  have hb9 := below_regrown w4 dq osq
  replace hbW := Lib.hid (hbW.out.trans (hb9.mono hbW.out.size))
  go_wp2_with (go_step)
  go_ret
  exact ⟨ret_bool (by simp), hbW.out⟩

set_option maxHeartbeats 1000000 in
theorem walk_3 (y m wk n y' m' d' : Int) (w : World) (hy : 1 ≤ y ∧ y ≤ 9999) (hm : 1 ≤ m ∧ m ≤ 12) (hw : 0 ≤ wk ∧ wk ≤ 6) (hn : 1 ≤ n ∧ n ≤ mlen y m) (h2 : isDate y' m' d' = true)
    (hwd : wd (num y' m' d') = wk) (hlo : num y m 1 + n - 1 ≤ num y' m' d') (hhi : num y' m' d' < num y m 1 + n + 6) (hp : onV y m 3 wk n = ((y', m', d'), 0)) :
    Calls Try.prog 8 #[.int .i64 y, .int .i64 m, .agg #[.int .i64 3, .int .i64 wk, .int .i64 n]] w fun e w' => e = .returned (.bool true) ∧ Below w.heap.size w w' := by
  have h2' := Lib.hid h2; clear h2
  have HN : Hid (num y' m' d' = num y' m' d') := Lib.hid rfl
  have hq := Lib.hid hwd; clear hwd
  have hbW : Hid (Below w.heap.size w w) := Lib.hid (Below.refl _ _)
  have hl := mlen_bd y m
  have hb1x := num_bd (isDate_iff.2 ⟨hy.1, hy.2, hm.1, hm.2, by omega, by omega⟩ : isDate y m 1 = true)
  have hb2x := num_bd h2'.out
  have HP := Lib.hid hp; clear hp
  go_enter Try.func8, Try.ntmps8
  go_wp2_with (go_step)
  generalize hW_ : w.alloc (.cells #[.int .i64 3, .int .i64 wk, .int .i64 n] 38) = W
  have a0 : W.cell? ⟨w.heap.size, 0, none⟩ = some (.int .i64 3) := by subst hW_; simp
  have af0 : W.frozen? ⟨w.heap.size, 0, none⟩ = false := by subst hW_; simp
  have a1 : W.cell? ⟨w.heap.size, 1, none⟩ = some (.int .i64 wk) := by subst hW_; simp
  have af1 : W.frozen? ⟨w.heap.size, 1, none⟩ = false := by subst hW_; simp
  have a2 : W.cell? ⟨w.heap.size, 2, none⟩ = some (.int .i64 n) := by subst hW_; simp
  have af2 : W.frozen? ⟨w.heap.size, 2, none⟩ = false := by subst hW_; simp
  have lwa := hbW.out.size
  have hb_ : Below w.heap.size w W := by subst hW_; exact (Below.refl _ _).alloc (Nat.le_refl _) _
  have hza : w.heap.size < W.heap.size := by subst hW_; simp
  clear hW_
  replace hbW := Lib.hid (hbW.out.trans (hb_.mono hbW.out.size))
  clear hb_
  refine (on_any _ _ _ _ _ _).mono ?_
  rintro e w1 ⟨rfl, hb1⟩
  rw [HP.out]
  dsimp only [dv]
  replace a0 := (hb1.cell (p := ⟨w.heap.size, 0, none⟩) hza).trans a0
  replace af0 := (hb1.frozen (p := ⟨w.heap.size, 0, none⟩) hza).trans af0
  replace a1 := (hb1.cell (p := ⟨w.heap.size, 1, none⟩) hza).trans a1
  replace af1 := (hb1.frozen (p := ⟨w.heap.size, 1, none⟩) hza).trans af1
  replace a2 := (hb1.cell (p := ⟨w.heap.size, 2, none⟩) hza).trans a2
  replace af2 := (hb1.frozen (p := ⟨w.heap.size, 2, none⟩) hza).trans af2
  replace hza := Nat.lt_of_lt_of_le hza hb1.size
  replace hbW := Lib.hid (hbW.out.trans (hb1.mono hbW.out.size))
  go_wp2_with (go_step)
  generalize hW_ : w1.alloc (.cells #[.int .i64 y', .int .i64 m', .int .i64 d'] 23) = V
  have b0 : V.cell? ⟨w1.heap.size, 0, none⟩ = some (.int .i64 y') := by subst hW_; simp
  have bf0 : V.frozen? ⟨w1.heap.size, 0, none⟩ = false := by subst hW_; simp
  have b1 : V.cell? ⟨w1.heap.size, 1, none⟩ = some (.int .i64 m') := by subst hW_; simp
  have bf1 : V.frozen? ⟨w1.heap.size, 1, none⟩ = false := by subst hW_; simp
  have b2 : V.cell? ⟨w1.heap.size, 2, none⟩ = some (.int .i64 d') := by subst hW_; simp
  have bf2 : V.frozen? ⟨w1.heap.size, 2, none⟩ = false := by subst hW_; simp
  have lwb := hbW.out.size
  have lab := hza
  have hb_ : Below w1.heap.size w1 V := by subst hW_; exact (Below.refl _ _).alloc (Nat.le_refl _) _
  have hzb : w1.heap.size < V.heap.size := by subst hW_; simp
  clear hW_
  replace a0 := (hb_.cell (p := ⟨w.heap.size, 0, none⟩) hza).trans a0
  replace af0 := (hb_.frozen (p := ⟨w.heap.size, 0, none⟩) hza).trans af0
  replace a1 := (hb_.cell (p := ⟨w.heap.size, 1, none⟩) hza).trans a1
  replace af1 := (hb_.frozen (p := ⟨w.heap.size, 1, none⟩) hza).trans af1
  replace a2 := (hb_.cell (p := ⟨w.heap.size, 2, none⟩) hza).trans a2
  replace af2 := (hb_.frozen (p := ⟨w.heap.size, 2, none⟩) hza).trans af2
  replace hza := Nat.lt_of_lt_of_le hza hb_.size
  replace hbW := Lib.hid (hbW.out.trans (hb_.mono hbW.out.size))
  clear hb_
  refine (civilBegun_any _).mono ?_
  rintro e w2 ⟨rfl, hb2⟩
  replace a0 := (hb2.cell (p := ⟨w.heap.size, 0, none⟩) hza).trans a0
  replace af0 := (hb2.frozen (p := ⟨w.heap.size, 0, none⟩) hza).trans af0
  replace a1 := (hb2.cell (p := ⟨w.heap.size, 1, none⟩) hza).trans a1
  replace af1 := (hb2.frozen (p := ⟨w.heap.size, 1, none⟩) hza).trans af1
  replace a2 := (hb2.cell (p := ⟨w.heap.size, 2, none⟩) hza).trans a2
  replace af2 := (hb2.frozen (p := ⟨w.heap.size, 2, none⟩) hza).trans af2
  replace hza := Nat.lt_of_lt_of_le hza hb2.size
  replace b0 := (hb2.cell (p := ⟨w1.heap.size, 0, none⟩) hzb).trans b0
  replace bf0 := (hb2.frozen (p := ⟨w1.heap.size, 0, none⟩) hzb).trans bf0
  replace b1 := (hb2.cell (p := ⟨w1.heap.size, 1, none⟩) hzb).trans b1
  replace bf1 := (hb2.frozen (p := ⟨w1.heap.size, 1, none⟩) hzb).trans bf1
  replace b2 := (hb2.cell (p := ⟨w1.heap.size, 2, none⟩) hzb).trans b2
  replace bf2 := (hb2.frozen (p := ⟨w1.heap.size, 2, none⟩) hzb).trans bf2
  replace hzb := Nat.lt_of_lt_of_le hzb hb2.size
  replace hbW := Lib.hid (hbW.out.trans (hb2.mono hbW.out.size))
  go_wp2_with (go_step)
  refine (days_ok _ _ _ _ h2'.out).mono ?_
  rintro e w3 ⟨rfl, hb3⟩
  try rw [HN.out]
  replace a0 := (hb3.cell (p := ⟨w.heap.size, 0, none⟩) hza).trans a0
  replace af0 := (hb3.frozen (p := ⟨w.heap.size, 0, none⟩) hza).trans af0
  replace a1 := (hb3.cell (p := ⟨w.heap.size, 1, none⟩) hza).trans a1
  replace af1 := (hb3.frozen (p := ⟨w.heap.size, 1, none⟩) hza).trans af1
  replace a2 := (hb3.cell (p := ⟨w.heap.size, 2, none⟩) hza).trans a2
  replace af2 := (hb3.frozen (p := ⟨w.heap.size, 2, none⟩) hza).trans af2
  replace hza := Nat.lt_of_lt_of_le hza hb3.size
  replace b0 := (hb3.cell (p := ⟨w1.heap.size, 0, none⟩) hzb).trans b0
  replace bf0 := (hb3.frozen (p := ⟨w1.heap.size, 0, none⟩) hzb).trans bf0
  replace b1 := (hb3.cell (p := ⟨w1.heap.size, 1, none⟩) hzb).trans b1
  replace bf1 := (hb3.frozen (p := ⟨w1.heap.size, 1, none⟩) hzb).trans bf1
  replace b2 := (hb3.cell (p := ⟨w1.heap.size, 2, none⟩) hzb).trans b2
  replace bf2 := (hb3.frozen (p := ⟨w1.heap.size, 2, none⟩) hzb).trans bf2
  replace hzb := Nat.lt_of_lt_of_le hzb hb3.size
  replace hbW := Lib.hid (hbW.out.trans (hb3.mono hbW.out.size))
  go_wp2_with (go_step)
  refine (days_ok _ _ _ _ (isDate_iff.2 ⟨hy.1, hy.2, hm.1, hm.2, by omega, by omega⟩)).mono ?_
  rintro e w4 ⟨rfl, hb4⟩
  replace a0 := (hb4.cell (p := ⟨w.heap.size, 0, none⟩) hza).trans a0
  replace af0 := (hb4.frozen (p := ⟨w.heap.size, 0, none⟩) hza).trans af0
  replace a1 := (hb4.cell (p := ⟨w.heap.size, 1, none⟩) hza).trans a1
  replace af1 := (hb4.frozen (p := ⟨w.heap.size, 1, none⟩) hza).trans af1
  replace a2 := (hb4.cell (p := ⟨w.heap.size, 2, none⟩) hza).trans a2
  replace af2 := (hb4.frozen (p := ⟨w.heap.size, 2, none⟩) hza).trans af2
  replace hza := Nat.lt_of_lt_of_le hza hb4.size
  replace b0 := (hb4.cell (p := ⟨w1.heap.size, 0, none⟩) hzb).trans b0
  replace bf0 := (hb4.frozen (p := ⟨w1.heap.size, 0, none⟩) hzb).trans bf0
  replace b1 := (hb4.cell (p := ⟨w1.heap.size, 1, none⟩) hzb).trans b1
  replace bf1 := (hb4.frozen (p := ⟨w1.heap.size, 1, none⟩) hzb).trans bf1
  replace b2 := (hb4.cell (p := ⟨w1.heap.size, 2, none⟩) hzb).trans b2
  replace bf2 := (hb4.frozen (p := ⟨w1.heap.size, 2, none⟩) hzb).trans bf2
  replace hzb := Nat.lt_of_lt_of_le hzb hb4.size
  replace hbW := Lib.hid (hbW.out.trans (hb4.mono hbW.out.size))
  go_wp2_with (go_step)
  have a0' := cell_regrown a0
  have a1' := cell_regrown a1
  have a2' := cell_regrown a2
  have hwq : ∀ w, Calls Try.prog 11 #[.int .i64 (num y' m' d')] w fun e w' => e = .returned (.int .i64 wk) ∧ w = w' := fun w => by have := weekday_any (num y' m' d') w; rw [hq.out] at this; exact this
  have HWQ := Lib.hid hwq; clear hwq
  refine wp_region_quiet_below (by kernel_rfl) (by kernel_rfl) ?_
  repeat (go_big_quiet_step ((go_at_call 11; exact Calls.regrown_of (Calls.bel (HWQ.out _)))))
  refine wpQuiet_nil ?_
  intro _ hw'
  obtain ⟨⟨dq, osq⟩, hw''⟩ := hw'
  subst hw''
  have hb9 := below_regrown w4 dq osq
  replace hbW := Lib.hid (hbW.out.trans (hb9.mono hbW.out.size))
  go_wp2_with (go_step)
  go_ret
  exact ⟨ret_bool (by simp), hbW.out⟩

set_option maxHeartbeats 1000000 in
theorem walk_4 (y m wk n y' m' d' : Int) (w : World) (hy : 1 ≤ y ∧ y ≤ 9999) (hm : 1 ≤ m ∧ m ≤ 12) (hw : 0 ≤ wk ∧ wk ≤ 6) (hn : 1 ≤ n ∧ n ≤ mlen y m) (h2 : isDate y' m' d' = true)
    (hwd : wd (num y' m' d') = wk) (hlo : num y' m' d' ≤ num y m 1 + n - 1) (hhi : num y m 1 + n - 8 < num y' m' d') (hp : onV y m 4 wk n = ((y', m', d'), 0)) :
    Calls Try.prog 8 #[.int .i64 y, .int .i64 m, .agg #[.int .i64 4, .int .i64 wk, .int .i64 n]] w fun e w' => e = .returned (.bool true) ∧ Below w.heap.size w w' := by
  have h2' := Lib.hid h2; clear h2
  have HN : Hid (num y' m' d' = num y' m' d') := Lib.hid rfl
  have hq := Lib.hid hwd; clear hwd
  have hbW : Hid (Below w.heap.size w w) := Lib.hid (Below.refl _ _)
  have hl := mlen_bd y m
  have hb1x := num_bd (isDate_iff.2 ⟨hy.1, hy.2, hm.1, hm.2, by omega, by omega⟩ : isDate y m 1 = true)
  have hb2x := num_bd h2'.out
  have HP := Lib.hid hp; clear hp
  go_enter Try.func8, Try.ntmps8
  go_wp2_with (go_step)
  generalize hW_ : w.alloc (.cells #[.int .i64 4, .int .i64 wk, .int .i64 n] 38) = W
  have a0 : W.cell? ⟨w.heap.size, 0, none⟩ = some (.int .i64 4) := by subst hW_; simp
  have af0 : W.frozen? ⟨w.heap.size, 0, none⟩ = false := by subst hW_; simp
  have a1 : W.cell? ⟨w.heap.size, 1, none⟩ = some (.int .i64 wk) := by subst hW_; simp
  have af1 : W.frozen? ⟨w.heap.size, 1, none⟩ = false := by subst hW_; simp
  have a2 : W.cell? ⟨w.heap.size, 2, none⟩ = some (.int .i64 n) := by subst hW_; simp
  have af2 : W.frozen? ⟨w.heap.size, 2, none⟩ = false := by subst hW_; simp
  have lwa := hbW.out.size
  have hb_ : Below w.heap.size w W := by subst hW_; exact (Below.refl _ _).alloc (Nat.le_refl _) _
  have hza : w.heap.size < W.heap.size := by subst hW_; simp
  clear hW_
  replace hbW := Lib.hid (hbW.out.trans (hb_.mono hbW.out.size))
  clear hb_
  refine (on_any _ _ _ _ _ _).mono ?_
  rintro e w1 ⟨rfl, hb1⟩
  rw [HP.out]
  dsimp only [dv]
  replace a0 := (hb1.cell (p := ⟨w.heap.size, 0, none⟩) hza).trans a0
  replace af0 := (hb1.frozen (p := ⟨w.heap.size, 0, none⟩) hza).trans af0
  replace a1 := (hb1.cell (p := ⟨w.heap.size, 1, none⟩) hza).trans a1
  replace af1 := (hb1.frozen (p := ⟨w.heap.size, 1, none⟩) hza).trans af1
  replace a2 := (hb1.cell (p := ⟨w.heap.size, 2, none⟩) hza).trans a2
  replace af2 := (hb1.frozen (p := ⟨w.heap.size, 2, none⟩) hza).trans af2
  replace hza := Nat.lt_of_lt_of_le hza hb1.size
  replace hbW := Lib.hid (hbW.out.trans (hb1.mono hbW.out.size))
  go_wp2_with (go_step)
  generalize hW_ : w1.alloc (.cells #[.int .i64 y', .int .i64 m', .int .i64 d'] 23) = V
  have b0 : V.cell? ⟨w1.heap.size, 0, none⟩ = some (.int .i64 y') := by subst hW_; simp
  have bf0 : V.frozen? ⟨w1.heap.size, 0, none⟩ = false := by subst hW_; simp
  have b1 : V.cell? ⟨w1.heap.size, 1, none⟩ = some (.int .i64 m') := by subst hW_; simp
  have bf1 : V.frozen? ⟨w1.heap.size, 1, none⟩ = false := by subst hW_; simp
  have b2 : V.cell? ⟨w1.heap.size, 2, none⟩ = some (.int .i64 d') := by subst hW_; simp
  have bf2 : V.frozen? ⟨w1.heap.size, 2, none⟩ = false := by subst hW_; simp
  have lwb := hbW.out.size
  have lab := hza
  have hb_ : Below w1.heap.size w1 V := by subst hW_; exact (Below.refl _ _).alloc (Nat.le_refl _) _
  have hzb : w1.heap.size < V.heap.size := by subst hW_; simp
  clear hW_
  replace a0 := (hb_.cell (p := ⟨w.heap.size, 0, none⟩) hza).trans a0
  replace af0 := (hb_.frozen (p := ⟨w.heap.size, 0, none⟩) hza).trans af0
  replace a1 := (hb_.cell (p := ⟨w.heap.size, 1, none⟩) hza).trans a1
  replace af1 := (hb_.frozen (p := ⟨w.heap.size, 1, none⟩) hza).trans af1
  replace a2 := (hb_.cell (p := ⟨w.heap.size, 2, none⟩) hza).trans a2
  replace af2 := (hb_.frozen (p := ⟨w.heap.size, 2, none⟩) hza).trans af2
  replace hza := Nat.lt_of_lt_of_le hza hb_.size
  replace hbW := Lib.hid (hbW.out.trans (hb_.mono hbW.out.size))
  clear hb_
  refine (civilBegun_any _).mono ?_
  rintro e w2 ⟨rfl, hb2⟩
  replace a0 := (hb2.cell (p := ⟨w.heap.size, 0, none⟩) hza).trans a0
  replace af0 := (hb2.frozen (p := ⟨w.heap.size, 0, none⟩) hza).trans af0
  replace a1 := (hb2.cell (p := ⟨w.heap.size, 1, none⟩) hza).trans a1
  replace af1 := (hb2.frozen (p := ⟨w.heap.size, 1, none⟩) hza).trans af1
  replace a2 := (hb2.cell (p := ⟨w.heap.size, 2, none⟩) hza).trans a2
  replace af2 := (hb2.frozen (p := ⟨w.heap.size, 2, none⟩) hza).trans af2
  replace hza := Nat.lt_of_lt_of_le hza hb2.size
  replace b0 := (hb2.cell (p := ⟨w1.heap.size, 0, none⟩) hzb).trans b0
  replace bf0 := (hb2.frozen (p := ⟨w1.heap.size, 0, none⟩) hzb).trans bf0
  replace b1 := (hb2.cell (p := ⟨w1.heap.size, 1, none⟩) hzb).trans b1
  replace bf1 := (hb2.frozen (p := ⟨w1.heap.size, 1, none⟩) hzb).trans bf1
  replace b2 := (hb2.cell (p := ⟨w1.heap.size, 2, none⟩) hzb).trans b2
  replace bf2 := (hb2.frozen (p := ⟨w1.heap.size, 2, none⟩) hzb).trans bf2
  replace hzb := Nat.lt_of_lt_of_le hzb hb2.size
  replace hbW := Lib.hid (hbW.out.trans (hb2.mono hbW.out.size))
  go_wp2_with (go_step)
  refine (days_ok _ _ _ _ h2'.out).mono ?_
  rintro e w3 ⟨rfl, hb3⟩
  try rw [HN.out]
  replace a0 := (hb3.cell (p := ⟨w.heap.size, 0, none⟩) hza).trans a0
  replace af0 := (hb3.frozen (p := ⟨w.heap.size, 0, none⟩) hza).trans af0
  replace a1 := (hb3.cell (p := ⟨w.heap.size, 1, none⟩) hza).trans a1
  replace af1 := (hb3.frozen (p := ⟨w.heap.size, 1, none⟩) hza).trans af1
  replace a2 := (hb3.cell (p := ⟨w.heap.size, 2, none⟩) hza).trans a2
  replace af2 := (hb3.frozen (p := ⟨w.heap.size, 2, none⟩) hza).trans af2
  replace hza := Nat.lt_of_lt_of_le hza hb3.size
  replace b0 := (hb3.cell (p := ⟨w1.heap.size, 0, none⟩) hzb).trans b0
  replace bf0 := (hb3.frozen (p := ⟨w1.heap.size, 0, none⟩) hzb).trans bf0
  replace b1 := (hb3.cell (p := ⟨w1.heap.size, 1, none⟩) hzb).trans b1
  replace bf1 := (hb3.frozen (p := ⟨w1.heap.size, 1, none⟩) hzb).trans bf1
  replace b2 := (hb3.cell (p := ⟨w1.heap.size, 2, none⟩) hzb).trans b2
  replace bf2 := (hb3.frozen (p := ⟨w1.heap.size, 2, none⟩) hzb).trans bf2
  replace hzb := Nat.lt_of_lt_of_le hzb hb3.size
  replace hbW := Lib.hid (hbW.out.trans (hb3.mono hbW.out.size))
  go_wp2_with (go_step)
  refine (days_ok _ _ _ _ (isDate_iff.2 ⟨hy.1, hy.2, hm.1, hm.2, by omega, by omega⟩)).mono ?_
  rintro e w4 ⟨rfl, hb4⟩
  replace a0 := (hb4.cell (p := ⟨w.heap.size, 0, none⟩) hza).trans a0
  replace af0 := (hb4.frozen (p := ⟨w.heap.size, 0, none⟩) hza).trans af0
  replace a1 := (hb4.cell (p := ⟨w.heap.size, 1, none⟩) hza).trans a1
  replace af1 := (hb4.frozen (p := ⟨w.heap.size, 1, none⟩) hza).trans af1
  replace a2 := (hb4.cell (p := ⟨w.heap.size, 2, none⟩) hza).trans a2
  replace af2 := (hb4.frozen (p := ⟨w.heap.size, 2, none⟩) hza).trans af2
  replace hza := Nat.lt_of_lt_of_le hza hb4.size
  replace b0 := (hb4.cell (p := ⟨w1.heap.size, 0, none⟩) hzb).trans b0
  replace bf0 := (hb4.frozen (p := ⟨w1.heap.size, 0, none⟩) hzb).trans bf0
  replace b1 := (hb4.cell (p := ⟨w1.heap.size, 1, none⟩) hzb).trans b1
  replace bf1 := (hb4.frozen (p := ⟨w1.heap.size, 1, none⟩) hzb).trans bf1
  replace b2 := (hb4.cell (p := ⟨w1.heap.size, 2, none⟩) hzb).trans b2
  replace bf2 := (hb4.frozen (p := ⟨w1.heap.size, 2, none⟩) hzb).trans bf2
  replace hzb := Nat.lt_of_lt_of_le hzb hb4.size
  replace hbW := Lib.hid (hbW.out.trans (hb4.mono hbW.out.size))
  go_wp2_with (go_step)
  have a0' := cell_regrown a0
  have a1' := cell_regrown a1
  have a2' := cell_regrown a2
  have hwq : ∀ w, Calls Try.prog 11 #[.int .i64 (num y' m' d')] w fun e w' => e = .returned (.int .i64 wk) ∧ w = w' := fun w => by have := weekday_any (num y' m' d') w; rw [hq.out] at this; exact this
  have HWQ := Lib.hid hwq; clear hwq
  refine wp_region_quiet_below (by kernel_rfl) (by kernel_rfl) ?_
  repeat (go_big_quiet_step ((go_at_call 11; exact Calls.regrown_of (Calls.bel (HWQ.out _)))))
  refine wpQuiet_nil ?_
  intro _ hw'
  obtain ⟨⟨dq, osq⟩, hw''⟩ := hw'
  subst hw''
  have hb9 := below_regrown w4 dq osq
  replace hbW := Lib.hid (hbW.out.trans (hb9.mono hbW.out.size))
  go_wp2_with (go_step)
  go_ret
  exact ⟨ret_bool (by simp), hbW.out⟩

theorem on_split (y m kind wk n : Int) : (∃ k, k ≠ 0 ∧ onV y m kind wk n = ((0, 0, 0), k)) ∨
    (formE y m kind wk n = 0 ∧ -719162 ≤ onDay y m kind wk n ∧ onDay y m kind wk n ≤ 2932896 ∧ onV y m kind wk n = (dateOf (onDay y m kind wk n), 0)) := by
  unfold onV
  by_cases h : formE y m kind wk n = 0
  · rw [if_neg (by simp [h])]
    by_cases hr : -719162 ≤ onDay y m kind wk n ∧ onDay y m kind wk n ≤ 2932896
    · exact .inr ⟨h, hr.1, hr.2, if_pos hr⟩
    · exact .inl ⟨3, by omega, if_neg hr⟩
  · exact .inl ⟨_, h, if_pos h⟩

theorem walk (y m kind wk n : Int) (w : World) :
    Calls Try.prog 8 #[.int .i64 y, .int .i64 m, .agg #[.int .i64 kind, .int .i64 wk, .int .i64 n]] w fun e w' => e = .returned (.bool true) ∧ Below w.heap.size w w' := by
  rcases on_split y m kind wk n with ⟨k, hk, hp⟩ | ⟨h, r1, r2, hp⟩
  · exact walk_no y m kind wk n k w hp hk
  · have hfm : (1 ≤ y ∧ y ≤ 9999) ∧ (1 ≤ m ∧ m ≤ 12) ∧ (1 ≤ kind ∧ kind ≤ 4) ∧ (0 ≤ wk ∧ wk ≤ 6) ∧ (kind = 1 → wk = 0) ∧ (kind = 2 → n = 0) ∧ (kind ≠ 2 → 1 ≤ n ∧ n ≤ mlen y m) := by
      unfold formE at h; split at h <;> (try split at h) <;> (try split at h) <;> (try split at h) <;> omega
    obtain ⟨hy, hm, hk, hw, hk1, hk2, hk3⟩ := hfm
    have hds := dateOf_spec r1 r2
    have h4 : kind = 1 ∨ kind = 2 ∨ kind = 3 ∨ kind = 4 := by omega
    rcases h4 with rfl | rfl | rfl | rfl
    · obtain rfl := hk1 rfl
      have hn := hk3 (by omega)
      have hd : isDate y m n = true := isDate_iff.2 ⟨hy.1, hy.2, hm.1, hm.2, hn.1, hn.2⟩
      have e : onDay y m 1 0 n = num y m n := by rw [onDay_1 y m 0 n]; unfold num; omega
      rw [e, dateOf_num hd] at hp
      exact walk_1 y m n w hy hm hn hp
    · obtain rfl := hk2 rfl
      have hl := mlen_bd y m
      have e := onDay_2 y m wk 0
      have hb := bwd_bd (num y m 1 + mlen y m - 1) wk
      have hd : isDate y m (onDay y m 2 wk 0 - num y m 1 + 1) = true := isDate_iff.2 ⟨hy.1, hy.2, hm.1, hm.2, by rw [e]; omega, by rw [e]; omega⟩
      have hnum : num y m (onDay y m 2 wk 0 - num y m 1 + 1) = onDay y m 2 wk 0 := by unfold num; omega
      rw [dateOf_eq hd hnum] at hp
      exact walk_2 y m wk _ w hy hm hw ⟨by rw [e]; omega, by rw [e]; omega⟩ (by rw [hnum, e]; exact wd_bwd hw) hp
    · have e := onDay_3 y m wk n
      have hb := fwd_bd (num y m 1 + n - 1) wk
      exact walk_3 y m wk n _ _ _ w hy hm hw (hk3 (by omega)) hds.1 (by rw [hds.2, e]; exact wd_fwd hw) (by rw [hds.2, e]; omega) (by rw [hds.2, e]; omega) (by rw [hp])
    · have e := onDay_4 y m wk n
      have hb := bwd_bd (num y m 1 + n - 1) wk
      exact walk_4 y m wk n _ _ _ w hy hm hw (hk3 (by omega)) hds.1 (by rw [hds.2, e]; exact wd_bwd hw) (by rw [hds.2, e]; omega) (by rw [hds.2, e]; omega) (by rw [hp])

set_option maxRecDepth 100000 in
theorem lifted (os : Os) (started : os.Started) (H : Type) (enc : TypeId × Value → H) :
    ReturnsInHanded {} Try.checked os 8 .any (Rows.civilFormSpec.pre6 enc Try.prog Try.f8 Rows.civilFormRow.domain false) (Rows.civilFormSpec.post enc Try.prog Try.f8 false true false false) := by
  refine returnsInHanded_of_change (C := Try.checked) own started (by kernel_rfl) Try.func8
    (ChangeSpec.witness6 (enc := enc) (C := Try.checked) false ⟨#[], #[.int .i64 0, .int .i64 0, .agg #[.int .i64 0, .int .i64 0, .int .i64 0]], []⟩ 8 (by kernel_rfl) (by kernel_rfl) (by kernel_rfl) (by kernel_rfl)) ?_
  intro W base args ds gs before hval0 hW0 _ _
  have hval : ∀ (j : Nat) t v, Try.f8.params[j]? = some t → args[j]? = some v → Value.okWide Try.prog W .any base t v := hval0
  have hW := hW0
  obtain ⟨p, q, hA0, _, _, _, _⟩ := hW
  have hA : DataW.TrodAll enc Try.prog W 0 (fun _ => true) true Try.f8.params.toList args.toList ds p := hA0
  have hfin : ∀ W', Below W.heap.size W W' → (∃ d, ds = d) → Rows.civilFormSpec.fn H ds = { results := [.lit (.bool true)], args := ds } → Rows.civilFormSpec.post enc Try.prog Try.f8 false true false false W args (.bool true) W' :=
    fun W' hb _ hs => law_post laidOut (by kernel_rfl) rfl Try.underlying4 rfl hs hW0 hb
  rw [Try.params8] at hA hval
  obtain ⟨v0, vs0, d0, ds0, p0, q0, hargs, rfl, rfl, h0, r0⟩ := trodAll_cons hA
  obtain ⟨v1, vs1, d1, ds1, p1, q1, rfl, rfl, rfl, h1, r1⟩ := trodAll_cons r0
  obtain ⟨v2, vs2, d2, ds2, p2, q2, rfl, rfl, rfl, h2, r2⟩ := trodAll_cons r1
  obtain ⟨rfl, rfl, rfl⟩ := trodAll_nil r2
  obtain rfl : args = #[v0, v1, v2] := by cases args; simp_all
  obtain ⟨y, rfl, hy⟩ := open_int1 (hval 0 3 _ rfl rfl) h0
  obtain ⟨m, rfl, hm⟩ := open_int1 (hval 1 3 _ rfl rfl) h1
  obtain ⟨k, wk, n, rfl, hk, hwk, hn⟩ := open_form (hval 2 38 _ rfl rfl) h2
  refine (walk y m k wk n W).mono fun e W' ⟨he, hb⟩ => ?_
  subst he
  exact ⟨_, rfl, hfin W' hb ⟨_, rfl⟩ rfl⟩

theorem proved : Rows.CivilFormSaid :=
  OpenClaim.holds_of_wide 8 Try.f8 rfl rfl rfl rfl rfl rfl rfl ⟨rfl, rfl, rfl, rfl, rfl⟩ rfl rfl rfl rfl rfl (by kernel_rfl) Try.func8 (by kernel_rfl)
    (of_decide_eq_true (by kernel_rfl)) (by unfold Func.isWrapper; first | (rw [if_pos (by decide +kernel)]; kernel_rfl) | (rw [if_neg (by decide +kernel)]; exact ⟨rfl, rfl⟩))
    (fun os started H enc _ => lifted os started H enc)

end Go.Proofs.Ytbbhpjnifeheiaa.civilForm
