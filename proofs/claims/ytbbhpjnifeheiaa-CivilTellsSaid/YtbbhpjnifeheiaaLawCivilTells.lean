/-
  CivilTells answers true, whatever date and number it is handed, and leaves them as they were. No condition.
-/
import Derived.Test.YtbbhpjnifeheiaaLawCivA
import Derived.Test.YtbbhpjnifeheiaaOpenCiv
set_option linter.unusedVariables false
set_option linter.unusedSimpArgs false
namespace Go.Proofs.Ytbbhpjnifeheiaa.civilTells
open Go.ChangeShapes Go.WideShapes Go.ChangeAt Go.RowKit Go.Sort Civ

set_option maxHeartbeats 2000000 in
theorem walk (y m d n : Int) (w : World) :
    Calls Try.prog 5 #[.agg #[.int .i64 y, .int .i64 m, .int .i64 d], .int .i64 n] w fun e w' => e = .returned (.bool true) ∧ Below w.heap.size w w' := by
  have hbW : Hid (Below w.heap.size w w) := Lib.hid (Below.refl _ _)
  by_cases hr : -719162 ≤ n ∧ n ≤ 2932896
  · obtain ⟨y', m', d', hp⟩ : ∃ y' m' d', dateOf n = (y', m', d') := ⟨_, _, _, rfl⟩
    have HP := Lib.hid hp; clear hp
    cases h1 : isDate y m d
    · have h1' := Lib.hid h1; clear h1
      go_enter Try.func5, Try.ntmps5
      go_wp2_with (go_step)
      generalize hW_ : w.alloc (.cells #[.int .i64 y, .int .i64 m, .int .i64 d] 23) = W
      have a0 : W.cell? ⟨w.heap.size, 0, none⟩ = some (.int .i64 y) := by subst hW_; simp
      have af0 : W.frozen? ⟨w.heap.size, 0, none⟩ = false := by subst hW_; simp
      have a1 : W.cell? ⟨w.heap.size, 1, none⟩ = some (.int .i64 m) := by subst hW_; simp
      have af1 : W.frozen? ⟨w.heap.size, 1, none⟩ = false := by subst hW_; simp
      have a2 : W.cell? ⟨w.heap.size, 2, none⟩ = some (.int .i64 d) := by subst hW_; simp
      have af2 : W.frozen? ⟨w.heap.size, 2, none⟩ = false := by subst hW_; simp
      have lwa := hbW.out.size
      have hb_ : Below w.heap.size w W := by subst hW_; exact (Below.refl _ _).alloc (Nat.le_refl _) _
      have hza : w.heap.size < W.heap.size := by subst hW_; simp
      clear hW_
      replace hbW := Lib.hid (hbW.out.trans (hb_.mono hbW.out.size))
      clear hb_
      refine (days_no _ _ _ _ h1'.out).mono ?_
      rintro e w1 ⟨rfl, hb1⟩
      replace a0 := (hb1.cell (p := ⟨w.heap.size, 0, none⟩) hza).trans a0
      replace af0 := (hb1.frozen (p := ⟨w.heap.size, 0, none⟩) hza).trans af0
      replace a1 := (hb1.cell (p := ⟨w.heap.size, 1, none⟩) hza).trans a1
      replace af1 := (hb1.frozen (p := ⟨w.heap.size, 1, none⟩) hza).trans af1
      replace a2 := (hb1.cell (p := ⟨w.heap.size, 2, none⟩) hza).trans a2
      replace af2 := (hb1.frozen (p := ⟨w.heap.size, 2, none⟩) hza).trans af2
      replace hza := Nat.lt_of_lt_of_le hza hb1.size
      replace hbW := Lib.hid (hbW.out.trans (hb1.mono hbW.out.size))
      go_wp2_with (go_step)
      refine (of_ok _ _ hr.1 hr.2).mono ?_
      rintro e w2 ⟨rfl, hb2⟩
      rw [HP.out]; dsimp only [dv]
      replace a0 := (hb2.cell (p := ⟨w.heap.size, 0, none⟩) hza).trans a0
      replace af0 := (hb2.frozen (p := ⟨w.heap.size, 0, none⟩) hza).trans af0
      replace a1 := (hb2.cell (p := ⟨w.heap.size, 1, none⟩) hza).trans a1
      replace af1 := (hb2.frozen (p := ⟨w.heap.size, 1, none⟩) hza).trans af1
      replace a2 := (hb2.cell (p := ⟨w.heap.size, 2, none⟩) hza).trans a2
      replace af2 := (hb2.frozen (p := ⟨w.heap.size, 2, none⟩) hza).trans af2
      replace hza := Nat.lt_of_lt_of_le hza hb2.size
      replace hbW := Lib.hid (hbW.out.trans (hb2.mono hbW.out.size))
      go_wp2_with (go_step)
      generalize hW_ : (w2.alloc (.cells #[.int .i64 y', .int .i64 m', .int .i64 d'] 23)).alloc (.cells #[.int .i64 0, .int .i64 0, .int .i64 0] 23) = U
      have b0 : U.cell? ⟨w2.heap.size, 0, none⟩ = some (.int .i64 y') := by subst hW_; simp
      have bf0 : U.frozen? ⟨w2.heap.size, 0, none⟩ = false := by subst hW_; simp
      have b1 : U.cell? ⟨w2.heap.size, 1, none⟩ = some (.int .i64 m') := by subst hW_; simp
      have bf1 : U.frozen? ⟨w2.heap.size, 1, none⟩ = false := by subst hW_; simp
      have b2 : U.cell? ⟨w2.heap.size, 2, none⟩ = some (.int .i64 d') := by subst hW_; simp
      have bf2 : U.frozen? ⟨w2.heap.size, 2, none⟩ = false := by subst hW_; simp
      have lwb := hbW.out.size
      have lab := hza
      have hzb : w2.heap.size < U.heap.size := by subst hW_; first | (simp; done) | (simp; omega)
      have c0 : U.cell? ⟨w2.heap.size + 1, 0, none⟩ = some (.int .i64 0) := by subst hW_; simp
      have cf0 : U.frozen? ⟨w2.heap.size + 1, 0, none⟩ = false := by subst hW_; simp
      have c1 : U.cell? ⟨w2.heap.size + 1, 1, none⟩ = some (.int .i64 0) := by subst hW_; simp
      have cf1 : U.frozen? ⟨w2.heap.size + 1, 1, none⟩ = false := by subst hW_; simp
      have c2 : U.cell? ⟨w2.heap.size + 1, 2, none⟩ = some (.int .i64 0) := by subst hW_; simp
      have cf2 : U.frozen? ⟨w2.heap.size + 1, 2, none⟩ = false := by subst hW_; simp
      have lwc := Nat.le_succ_of_le hbW.out.size
      have lac := Nat.lt_succ_of_lt hza
      have hzc : w2.heap.size + 1 < U.heap.size := by subst hW_; first | (simp; done) | (simp; omega)
      have hb_ : Below w2.heap.size w2 U := by subst hW_; exact ((Below.refl _ _).alloc (Nat.le_refl _) _).alloc (by simp) _
      clear hW_
      replace a0 := (hb_.cell (p := ⟨w.heap.size, 0, none⟩) hza).trans a0
      replace af0 := (hb_.frozen (p := ⟨w.heap.size, 0, none⟩) hza).trans af0
      replace a1 := (hb_.cell (p := ⟨w.heap.size, 1, none⟩) hza).trans a1
      replace af1 := (hb_.frozen (p := ⟨w.heap.size, 1, none⟩) hza).trans af1
      replace a2 := (hb_.cell (p := ⟨w.heap.size, 2, none⟩) hza).trans a2
      replace af2 := (hb_.frozen (p := ⟨w.heap.size, 2, none⟩) hza).trans af2
      replace hza := Nat.lt_of_lt_of_le hza hb_.size
      replace hbW := Lib.hid (hbW.out.trans (hb_.mono hbW.out.size))
      clear hb_
      refine (isDate_any _ _ _ _).mono ?_
      rintro e w3 ⟨rfl, hb3⟩
      rw [h1'.out]
      replace a0 := (hb3.cell (p := ⟨w.heap.size, 0, none⟩) hza).trans a0
      replace af0 := (hb3.frozen (p := ⟨w.heap.size, 0, none⟩) hza).trans af0
      replace a1 := (hb3.cell (p := ⟨w.heap.size, 1, none⟩) hza).trans a1
      replace af1 := (hb3.frozen (p := ⟨w.heap.size, 1, none⟩) hza).trans af1
      replace a2 := (hb3.cell (p := ⟨w.heap.size, 2, none⟩) hza).trans a2
      replace af2 := (hb3.frozen (p := ⟨w.heap.size, 2, none⟩) hza).trans af2
      replace hza := Nat.lt_of_lt_of_le hza hb3.size
      replace b0 := (hb3.cell (p := ⟨w2.heap.size, 0, none⟩) hzb).trans b0
      replace bf0 := (hb3.frozen (p := ⟨w2.heap.size, 0, none⟩) hzb).trans bf0
      replace b1 := (hb3.cell (p := ⟨w2.heap.size, 1, none⟩) hzb).trans b1
      replace bf1 := (hb3.frozen (p := ⟨w2.heap.size, 1, none⟩) hzb).trans bf1
      replace b2 := (hb3.cell (p := ⟨w2.heap.size, 2, none⟩) hzb).trans b2
      replace bf2 := (hb3.frozen (p := ⟨w2.heap.size, 2, none⟩) hzb).trans bf2
      replace hzb := Nat.lt_of_lt_of_le hzb hb3.size
      replace c0 := (hb3.cell (p := ⟨w2.heap.size + 1, 0, none⟩) hzc).trans c0
      replace cf0 := (hb3.frozen (p := ⟨w2.heap.size + 1, 0, none⟩) hzc).trans cf0
      replace c1 := (hb3.cell (p := ⟨w2.heap.size + 1, 1, none⟩) hzc).trans c1
      replace cf1 := (hb3.frozen (p := ⟨w2.heap.size + 1, 1, none⟩) hzc).trans cf1
      replace c2 := (hb3.cell (p := ⟨w2.heap.size + 1, 2, none⟩) hzc).trans c2
      replace cf2 := (hb3.frozen (p := ⟨w2.heap.size + 1, 2, none⟩) hzc).trans cf2
      replace hzc := Nat.lt_of_lt_of_le hzc hb3.size
      replace hbW := Lib.hid (hbW.out.trans (hb3.mono hbW.out.size))
      go_wp2_with (go_step)
      refine (firstDay_any _).mono ?_
      rintro e w4 ⟨rfl, hb4⟩
      replace a0 := (hb4.cell (p := ⟨w.heap.size, 0, none⟩) hza).trans a0
      replace af0 := (hb4.frozen (p := ⟨w.heap.size, 0, none⟩) hza).trans af0
      replace a1 := (hb4.cell (p := ⟨w.heap.size, 1, none⟩) hza).trans a1
      replace af1 := (hb4.frozen (p := ⟨w.heap.size, 1, none⟩) hza).trans af1
      replace a2 := (hb4.cell (p := ⟨w.heap.size, 2, none⟩) hza).trans a2
      replace af2 := (hb4.frozen (p := ⟨w.heap.size, 2, none⟩) hza).trans af2
      replace hza := Nat.lt_of_lt_of_le hza hb4.size
      replace b0 := (hb4.cell (p := ⟨w2.heap.size, 0, none⟩) hzb).trans b0
      replace bf0 := (hb4.frozen (p := ⟨w2.heap.size, 0, none⟩) hzb).trans bf0
      replace b1 := (hb4.cell (p := ⟨w2.heap.size, 1, none⟩) hzb).trans b1
      replace bf1 := (hb4.frozen (p := ⟨w2.heap.size, 1, none⟩) hzb).trans bf1
      replace b2 := (hb4.cell (p := ⟨w2.heap.size, 2, none⟩) hzb).trans b2
      replace bf2 := (hb4.frozen (p := ⟨w2.heap.size, 2, none⟩) hzb).trans bf2
      replace hzb := Nat.lt_of_lt_of_le hzb hb4.size
      replace c0 := (hb4.cell (p := ⟨w2.heap.size + 1, 0, none⟩) hzc).trans c0
      replace cf0 := (hb4.frozen (p := ⟨w2.heap.size + 1, 0, none⟩) hzc).trans cf0
      replace c1 := (hb4.cell (p := ⟨w2.heap.size + 1, 1, none⟩) hzc).trans c1
      replace cf1 := (hb4.frozen (p := ⟨w2.heap.size + 1, 1, none⟩) hzc).trans cf1
      replace c2 := (hb4.cell (p := ⟨w2.heap.size + 1, 2, none⟩) hzc).trans c2
      replace cf2 := (hb4.frozen (p := ⟨w2.heap.size + 1, 2, none⟩) hzc).trans cf2
      replace hzc := Nat.lt_of_lt_of_le hzc hb4.size
      replace hbW := Lib.hid (hbW.out.trans (hb4.mono hbW.out.size))
      go_wp2_with (go_step)
      refine (lastDay_any _).mono ?_
      rintro e w5 ⟨rfl, hb5⟩
      replace a0 := (hb5.cell (p := ⟨w.heap.size, 0, none⟩) hza).trans a0
      replace af0 := (hb5.frozen (p := ⟨w.heap.size, 0, none⟩) hza).trans af0
      replace a1 := (hb5.cell (p := ⟨w.heap.size, 1, none⟩) hza).trans a1
      replace af1 := (hb5.frozen (p := ⟨w.heap.size, 1, none⟩) hza).trans af1
      replace a2 := (hb5.cell (p := ⟨w.heap.size, 2, none⟩) hza).trans a2
      replace af2 := (hb5.frozen (p := ⟨w.heap.size, 2, none⟩) hza).trans af2
      replace hza := Nat.lt_of_lt_of_le hza hb5.size
      replace b0 := (hb5.cell (p := ⟨w2.heap.size, 0, none⟩) hzb).trans b0
      replace bf0 := (hb5.frozen (p := ⟨w2.heap.size, 0, none⟩) hzb).trans bf0
      replace b1 := (hb5.cell (p := ⟨w2.heap.size, 1, none⟩) hzb).trans b1
      replace bf1 := (hb5.frozen (p := ⟨w2.heap.size, 1, none⟩) hzb).trans bf1
      replace b2 := (hb5.cell (p := ⟨w2.heap.size, 2, none⟩) hzb).trans b2
      replace bf2 := (hb5.frozen (p := ⟨w2.heap.size, 2, none⟩) hzb).trans bf2
      replace hzb := Nat.lt_of_lt_of_le hzb hb5.size
      replace c0 := (hb5.cell (p := ⟨w2.heap.size + 1, 0, none⟩) hzc).trans c0
      replace cf0 := (hb5.frozen (p := ⟨w2.heap.size + 1, 0, none⟩) hzc).trans cf0
      replace c1 := (hb5.cell (p := ⟨w2.heap.size + 1, 1, none⟩) hzc).trans c1
      replace cf1 := (hb5.frozen (p := ⟨w2.heap.size + 1, 1, none⟩) hzc).trans cf1
      replace c2 := (hb5.cell (p := ⟨w2.heap.size + 1, 2, none⟩) hzc).trans c2
      replace cf2 := (hb5.frozen (p := ⟨w2.heap.size + 1, 2, none⟩) hzc).trans cf2
      replace hzc := Nat.lt_of_lt_of_le hzc hb5.size
      replace hbW := Lib.hid (hbW.out.trans (hb5.mono hbW.out.size))
      go_wp2_with (go_step)
      refine (refDateOf_any _ _ hr.1 hr.2).mono ?_
      rintro e w6 ⟨rfl, hb6⟩
      rw [HP.out]; dsimp only [dv]
      replace a0 := (hb6.cell (p := ⟨w.heap.size, 0, none⟩) hza).trans a0
      replace af0 := (hb6.frozen (p := ⟨w.heap.size, 0, none⟩) hza).trans af0
      replace a1 := (hb6.cell (p := ⟨w.heap.size, 1, none⟩) hza).trans a1
      replace af1 := (hb6.frozen (p := ⟨w.heap.size, 1, none⟩) hza).trans af1
      replace a2 := (hb6.cell (p := ⟨w.heap.size, 2, none⟩) hza).trans a2
      replace af2 := (hb6.frozen (p := ⟨w.heap.size, 2, none⟩) hza).trans af2
      replace hza := Nat.lt_of_lt_of_le hza hb6.size
      replace b0 := (hb6.cell (p := ⟨w2.heap.size, 0, none⟩) hzb).trans b0
      replace bf0 := (hb6.frozen (p := ⟨w2.heap.size, 0, none⟩) hzb).trans bf0
      replace b1 := (hb6.cell (p := ⟨w2.heap.size, 1, none⟩) hzb).trans b1
      replace bf1 := (hb6.frozen (p := ⟨w2.heap.size, 1, none⟩) hzb).trans bf1
      replace b2 := (hb6.cell (p := ⟨w2.heap.size, 2, none⟩) hzb).trans b2
      replace bf2 := (hb6.frozen (p := ⟨w2.heap.size, 2, none⟩) hzb).trans bf2
      replace hzb := Nat.lt_of_lt_of_le hzb hb6.size
      replace c0 := (hb6.cell (p := ⟨w2.heap.size + 1, 0, none⟩) hzc).trans c0
      replace cf0 := (hb6.frozen (p := ⟨w2.heap.size + 1, 0, none⟩) hzc).trans cf0
      replace c1 := (hb6.cell (p := ⟨w2.heap.size + 1, 1, none⟩) hzc).trans c1
      replace cf1 := (hb6.frozen (p := ⟨w2.heap.size + 1, 1, none⟩) hzc).trans cf1
      replace c2 := (hb6.cell (p := ⟨w2.heap.size + 1, 2, none⟩) hzc).trans c2
      replace cf2 := (hb6.frozen (p := ⟨w2.heap.size + 1, 2, none⟩) hzc).trans cf2
      replace hzc := Nat.lt_of_lt_of_le hzc hb6.size
      replace hbW := Lib.hid (hbW.out.trans (hb6.mono hbW.out.size))
      go_wp2_with (go_step)
      generalize hX_ : (((w6.setCell ⟨w2.heap.size + 1, 0, none⟩ (.int .i64 y')).setCell ⟨w2.heap.size + 1, 1, none⟩ (.int .i64 m')).setCell ⟨w2.heap.size + 1, 2, none⟩ (.int .i64 d')) = X
      replace c0 : X.cell? ⟨w2.heap.size + 1, 0, none⟩ = some (.int .i64 y') := by rw [← hX_]; exact (cset_o (cset_o (cset_s c0) (by simp)) (by simp))
      replace cf0 : X.frozen? ⟨w2.heap.size + 1, 0, none⟩ = false := by rw [← hX_]; exact (fset (fset (fset cf0)))
      replace c1 : X.cell? ⟨w2.heap.size + 1, 1, none⟩ = some (.int .i64 m') := by rw [← hX_]; exact (cset_o (cset_s (cset_o c1 (by simp))) (by simp))
      replace cf1 : X.frozen? ⟨w2.heap.size + 1, 1, none⟩ = false := by rw [← hX_]; exact (fset (fset (fset cf1)))
      replace c2 : X.cell? ⟨w2.heap.size + 1, 2, none⟩ = some (.int .i64 d') := by rw [← hX_]; exact (cset_s (cset_o (cset_o c2 (by simp)) (by simp)))
      replace cf2 : X.frozen? ⟨w2.heap.size + 1, 2, none⟩ = false := by rw [← hX_]; exact (fset (fset (fset cf2)))
      replace a0 := (show X.cell? ⟨w.heap.size, 0, none⟩ = w6.cell? ⟨w.heap.size, 0, none⟩ from by rw [← hX_]; exact ((World.cell?_setCell_other _ _ _ _ (by first | (simp; done) | (simp; omega))).trans ((World.cell?_setCell_other _ _ _ _ (by first | (simp; done) | (simp; omega))).trans (World.cell?_setCell_other _ _ _ _ (by first | (simp; done) | (simp; omega)))))).trans a0
      replace af0 := (show X.frozen? ⟨w.heap.size, 0, none⟩ = w6.frozen? ⟨w.heap.size, 0, none⟩ from by rw [← hX_]; exact ((World.frozen?_setCell _ _ _ _).trans ((World.frozen?_setCell _ _ _ _).trans (World.frozen?_setCell _ _ _ _)))).trans af0
      replace a1 := (show X.cell? ⟨w.heap.size, 1, none⟩ = w6.cell? ⟨w.heap.size, 1, none⟩ from by rw [← hX_]; exact ((World.cell?_setCell_other _ _ _ _ (by first | (simp; done) | (simp; omega))).trans ((World.cell?_setCell_other _ _ _ _ (by first | (simp; done) | (simp; omega))).trans (World.cell?_setCell_other _ _ _ _ (by first | (simp; done) | (simp; omega)))))).trans a1
      replace af1 := (show X.frozen? ⟨w.heap.size, 1, none⟩ = w6.frozen? ⟨w.heap.size, 1, none⟩ from by rw [← hX_]; exact ((World.frozen?_setCell _ _ _ _).trans ((World.frozen?_setCell _ _ _ _).trans (World.frozen?_setCell _ _ _ _)))).trans af1
      replace a2 := (show X.cell? ⟨w.heap.size, 2, none⟩ = w6.cell? ⟨w.heap.size, 2, none⟩ from by rw [← hX_]; exact ((World.cell?_setCell_other _ _ _ _ (by first | (simp; done) | (simp; omega))).trans ((World.cell?_setCell_other _ _ _ _ (by first | (simp; done) | (simp; omega))).trans (World.cell?_setCell_other _ _ _ _ (by first | (simp; done) | (simp; omega)))))).trans a2
      replace af2 := (show X.frozen? ⟨w.heap.size, 2, none⟩ = w6.frozen? ⟨w.heap.size, 2, none⟩ from by rw [← hX_]; exact ((World.frozen?_setCell _ _ _ _).trans ((World.frozen?_setCell _ _ _ _).trans (World.frozen?_setCell _ _ _ _)))).trans af2
      replace hza : w.heap.size < X.heap.size := by rw [← hX_]; simpa using hza
      replace b0 := (show X.cell? ⟨w2.heap.size, 0, none⟩ = w6.cell? ⟨w2.heap.size, 0, none⟩ from by rw [← hX_]; exact ((World.cell?_setCell_other _ _ _ _ (by first | (simp; done) | (simp; omega))).trans ((World.cell?_setCell_other _ _ _ _ (by first | (simp; done) | (simp; omega))).trans (World.cell?_setCell_other _ _ _ _ (by first | (simp; done) | (simp; omega)))))).trans b0
      replace bf0 := (show X.frozen? ⟨w2.heap.size, 0, none⟩ = w6.frozen? ⟨w2.heap.size, 0, none⟩ from by rw [← hX_]; exact ((World.frozen?_setCell _ _ _ _).trans ((World.frozen?_setCell _ _ _ _).trans (World.frozen?_setCell _ _ _ _)))).trans bf0
      replace b1 := (show X.cell? ⟨w2.heap.size, 1, none⟩ = w6.cell? ⟨w2.heap.size, 1, none⟩ from by rw [← hX_]; exact ((World.cell?_setCell_other _ _ _ _ (by first | (simp; done) | (simp; omega))).trans ((World.cell?_setCell_other _ _ _ _ (by first | (simp; done) | (simp; omega))).trans (World.cell?_setCell_other _ _ _ _ (by first | (simp; done) | (simp; omega)))))).trans b1
      replace bf1 := (show X.frozen? ⟨w2.heap.size, 1, none⟩ = w6.frozen? ⟨w2.heap.size, 1, none⟩ from by rw [← hX_]; exact ((World.frozen?_setCell _ _ _ _).trans ((World.frozen?_setCell _ _ _ _).trans (World.frozen?_setCell _ _ _ _)))).trans bf1
      replace b2 := (show X.cell? ⟨w2.heap.size, 2, none⟩ = w6.cell? ⟨w2.heap.size, 2, none⟩ from by rw [← hX_]; exact ((World.cell?_setCell_other _ _ _ _ (by first | (simp; done) | (simp; omega))).trans ((World.cell?_setCell_other _ _ _ _ (by first | (simp; done) | (simp; omega))).trans (World.cell?_setCell_other _ _ _ _ (by first | (simp; done) | (simp; omega)))))).trans b2
      replace bf2 := (show X.frozen? ⟨w2.heap.size, 2, none⟩ = w6.frozen? ⟨w2.heap.size, 2, none⟩ from by rw [← hX_]; exact ((World.frozen?_setCell _ _ _ _).trans ((World.frozen?_setCell _ _ _ _).trans (World.frozen?_setCell _ _ _ _)))).trans bf2
      replace hzb : w2.heap.size < X.heap.size := by rw [← hX_]; simpa using hzb
      replace hzc : w2.heap.size + 1 < X.heap.size := by rw [← hX_]; simpa using hzc
      replace hbW : Hid (Below w.heap.size w X) := Lib.hid (by rw [← hX_]; exact (((hbW.out.setCell (p := ⟨w2.heap.size + 1, 0, none⟩) lwc _).setCell (p := ⟨w2.heap.size + 1, 1, none⟩) lwc _).setCell (p := ⟨w2.heap.size + 1, 2, none⟩) lwc _))
      clear hX_
      refine (civilBegun_any _).mono ?_
      rintro e w7 ⟨rfl, hb7⟩
      replace a0 := (hb7.cell (p := ⟨w.heap.size, 0, none⟩) hza).trans a0
      replace af0 := (hb7.frozen (p := ⟨w.heap.size, 0, none⟩) hza).trans af0
      replace a1 := (hb7.cell (p := ⟨w.heap.size, 1, none⟩) hza).trans a1
      replace af1 := (hb7.frozen (p := ⟨w.heap.size, 1, none⟩) hza).trans af1
      replace a2 := (hb7.cell (p := ⟨w.heap.size, 2, none⟩) hza).trans a2
      replace af2 := (hb7.frozen (p := ⟨w.heap.size, 2, none⟩) hza).trans af2
      replace hza := Nat.lt_of_lt_of_le hza hb7.size
      replace b0 := (hb7.cell (p := ⟨w2.heap.size, 0, none⟩) hzb).trans b0
      replace bf0 := (hb7.frozen (p := ⟨w2.heap.size, 0, none⟩) hzb).trans bf0
      replace b1 := (hb7.cell (p := ⟨w2.heap.size, 1, none⟩) hzb).trans b1
      replace bf1 := (hb7.frozen (p := ⟨w2.heap.size, 1, none⟩) hzb).trans bf1
      replace b2 := (hb7.cell (p := ⟨w2.heap.size, 2, none⟩) hzb).trans b2
      replace bf2 := (hb7.frozen (p := ⟨w2.heap.size, 2, none⟩) hzb).trans bf2
      replace hzb := Nat.lt_of_lt_of_le hzb hb7.size
      replace c0 := (hb7.cell (p := ⟨w2.heap.size + 1, 0, none⟩) hzc).trans c0
      replace cf0 := (hb7.frozen (p := ⟨w2.heap.size + 1, 0, none⟩) hzc).trans cf0
      replace c1 := (hb7.cell (p := ⟨w2.heap.size + 1, 1, none⟩) hzc).trans c1
      replace cf1 := (hb7.frozen (p := ⟨w2.heap.size + 1, 1, none⟩) hzc).trans cf1
      replace c2 := (hb7.cell (p := ⟨w2.heap.size + 1, 2, none⟩) hzc).trans c2
      replace cf2 := (hb7.frozen (p := ⟨w2.heap.size + 1, 2, none⟩) hzc).trans cf2
      replace hzc := Nat.lt_of_lt_of_le hzc hb7.size
      replace hbW := Lib.hid (hbW.out.trans (hb7.mono hbW.out.size))
      go_wp2_with (first | (go_at_call 11; refine (weekday_any _ _).mono ?_; rintro e w' ⟨rfl, rfl⟩) | (go_at_call 18; refine (weekdayOf_any _ _).mono ?_; rintro e w' ⟨rfl, rfl⟩))
      go_ret
      exact ⟨ret_bool (by simp), hbW.out⟩
    · have hi := isDate_iff.1 h1
      have hl := mlen_bd y m
      have h1' := Lib.hid h1; clear h1
      go_enter Try.func5, Try.ntmps5
      go_wp2_with (go_step)
      generalize hW_ : w.alloc (.cells #[.int .i64 y, .int .i64 m, .int .i64 d] 23) = W
      have a0 : W.cell? ⟨w.heap.size, 0, none⟩ = some (.int .i64 y) := by subst hW_; simp
      have af0 : W.frozen? ⟨w.heap.size, 0, none⟩ = false := by subst hW_; simp
      have a1 : W.cell? ⟨w.heap.size, 1, none⟩ = some (.int .i64 m) := by subst hW_; simp
      have af1 : W.frozen? ⟨w.heap.size, 1, none⟩ = false := by subst hW_; simp
      have a2 : W.cell? ⟨w.heap.size, 2, none⟩ = some (.int .i64 d) := by subst hW_; simp
      have af2 : W.frozen? ⟨w.heap.size, 2, none⟩ = false := by subst hW_; simp
      have lwa := hbW.out.size
      have hb_ : Below w.heap.size w W := by subst hW_; exact (Below.refl _ _).alloc (Nat.le_refl _) _
      have hza : w.heap.size < W.heap.size := by subst hW_; simp
      clear hW_
      replace hbW := Lib.hid (hbW.out.trans (hb_.mono hbW.out.size))
      clear hb_
      refine (days_ok _ _ _ _ h1'.out).mono ?_
      rintro e w1 ⟨rfl, hb1⟩
      replace a0 := (hb1.cell (p := ⟨w.heap.size, 0, none⟩) hza).trans a0
      replace af0 := (hb1.frozen (p := ⟨w.heap.size, 0, none⟩) hza).trans af0
      replace a1 := (hb1.cell (p := ⟨w.heap.size, 1, none⟩) hza).trans a1
      replace af1 := (hb1.frozen (p := ⟨w.heap.size, 1, none⟩) hza).trans af1
      replace a2 := (hb1.cell (p := ⟨w.heap.size, 2, none⟩) hza).trans a2
      replace af2 := (hb1.frozen (p := ⟨w.heap.size, 2, none⟩) hza).trans af2
      replace hza := Nat.lt_of_lt_of_le hza hb1.size
      replace hbW := Lib.hid (hbW.out.trans (hb1.mono hbW.out.size))
      go_wp2_with (go_step)
      refine (of_ok _ _ hr.1 hr.2).mono ?_
      rintro e w2 ⟨rfl, hb2⟩
      rw [HP.out]; dsimp only [dv]
      replace a0 := (hb2.cell (p := ⟨w.heap.size, 0, none⟩) hza).trans a0
      replace af0 := (hb2.frozen (p := ⟨w.heap.size, 0, none⟩) hza).trans af0
      replace a1 := (hb2.cell (p := ⟨w.heap.size, 1, none⟩) hza).trans a1
      replace af1 := (hb2.frozen (p := ⟨w.heap.size, 1, none⟩) hza).trans af1
      replace a2 := (hb2.cell (p := ⟨w.heap.size, 2, none⟩) hza).trans a2
      replace af2 := (hb2.frozen (p := ⟨w.heap.size, 2, none⟩) hza).trans af2
      replace hza := Nat.lt_of_lt_of_le hza hb2.size
      replace hbW := Lib.hid (hbW.out.trans (hb2.mono hbW.out.size))
      go_wp2_with (go_step)
      generalize hW_ : (w2.alloc (.cells #[.int .i64 y', .int .i64 m', .int .i64 d'] 23)).alloc (.cells #[.int .i64 0, .int .i64 0, .int .i64 0] 23) = U
      have b0 : U.cell? ⟨w2.heap.size, 0, none⟩ = some (.int .i64 y') := by subst hW_; simp
      have bf0 : U.frozen? ⟨w2.heap.size, 0, none⟩ = false := by subst hW_; simp
      have b1 : U.cell? ⟨w2.heap.size, 1, none⟩ = some (.int .i64 m') := by subst hW_; simp
      have bf1 : U.frozen? ⟨w2.heap.size, 1, none⟩ = false := by subst hW_; simp
      have b2 : U.cell? ⟨w2.heap.size, 2, none⟩ = some (.int .i64 d') := by subst hW_; simp
      have bf2 : U.frozen? ⟨w2.heap.size, 2, none⟩ = false := by subst hW_; simp
      have lwb := hbW.out.size
      have lab := hza
      have hzb : w2.heap.size < U.heap.size := by subst hW_; first | (simp; done) | (simp; omega)
      have c0 : U.cell? ⟨w2.heap.size + 1, 0, none⟩ = some (.int .i64 0) := by subst hW_; simp
      have cf0 : U.frozen? ⟨w2.heap.size + 1, 0, none⟩ = false := by subst hW_; simp
      have c1 : U.cell? ⟨w2.heap.size + 1, 1, none⟩ = some (.int .i64 0) := by subst hW_; simp
      have cf1 : U.frozen? ⟨w2.heap.size + 1, 1, none⟩ = false := by subst hW_; simp
      have c2 : U.cell? ⟨w2.heap.size + 1, 2, none⟩ = some (.int .i64 0) := by subst hW_; simp
      have cf2 : U.frozen? ⟨w2.heap.size + 1, 2, none⟩ = false := by subst hW_; simp
      have lwc := Nat.le_succ_of_le hbW.out.size
      have lac := Nat.lt_succ_of_lt hza
      have hzc : w2.heap.size + 1 < U.heap.size := by subst hW_; first | (simp; done) | (simp; omega)
      have hb_ : Below w2.heap.size w2 U := by subst hW_; exact ((Below.refl _ _).alloc (Nat.le_refl _) _).alloc (by simp) _
      clear hW_
      replace a0 := (hb_.cell (p := ⟨w.heap.size, 0, none⟩) hza).trans a0
      replace af0 := (hb_.frozen (p := ⟨w.heap.size, 0, none⟩) hza).trans af0
      replace a1 := (hb_.cell (p := ⟨w.heap.size, 1, none⟩) hza).trans a1
      replace af1 := (hb_.frozen (p := ⟨w.heap.size, 1, none⟩) hza).trans af1
      replace a2 := (hb_.cell (p := ⟨w.heap.size, 2, none⟩) hza).trans a2
      replace af2 := (hb_.frozen (p := ⟨w.heap.size, 2, none⟩) hza).trans af2
      replace hza := Nat.lt_of_lt_of_le hza hb_.size
      replace hbW := Lib.hid (hbW.out.trans (hb_.mono hbW.out.size))
      clear hb_
      refine (isDate_any _ _ _ _).mono ?_
      rintro e w3 ⟨rfl, hb3⟩
      rw [h1'.out]
      replace a0 := (hb3.cell (p := ⟨w.heap.size, 0, none⟩) hza).trans a0
      replace af0 := (hb3.frozen (p := ⟨w.heap.size, 0, none⟩) hza).trans af0
      replace a1 := (hb3.cell (p := ⟨w.heap.size, 1, none⟩) hza).trans a1
      replace af1 := (hb3.frozen (p := ⟨w.heap.size, 1, none⟩) hza).trans af1
      replace a2 := (hb3.cell (p := ⟨w.heap.size, 2, none⟩) hza).trans a2
      replace af2 := (hb3.frozen (p := ⟨w.heap.size, 2, none⟩) hza).trans af2
      replace hza := Nat.lt_of_lt_of_le hza hb3.size
      replace b0 := (hb3.cell (p := ⟨w2.heap.size, 0, none⟩) hzb).trans b0
      replace bf0 := (hb3.frozen (p := ⟨w2.heap.size, 0, none⟩) hzb).trans bf0
      replace b1 := (hb3.cell (p := ⟨w2.heap.size, 1, none⟩) hzb).trans b1
      replace bf1 := (hb3.frozen (p := ⟨w2.heap.size, 1, none⟩) hzb).trans bf1
      replace b2 := (hb3.cell (p := ⟨w2.heap.size, 2, none⟩) hzb).trans b2
      replace bf2 := (hb3.frozen (p := ⟨w2.heap.size, 2, none⟩) hzb).trans bf2
      replace hzb := Nat.lt_of_lt_of_le hzb hb3.size
      replace c0 := (hb3.cell (p := ⟨w2.heap.size + 1, 0, none⟩) hzc).trans c0
      replace cf0 := (hb3.frozen (p := ⟨w2.heap.size + 1, 0, none⟩) hzc).trans cf0
      replace c1 := (hb3.cell (p := ⟨w2.heap.size + 1, 1, none⟩) hzc).trans c1
      replace cf1 := (hb3.frozen (p := ⟨w2.heap.size + 1, 1, none⟩) hzc).trans cf1
      replace c2 := (hb3.cell (p := ⟨w2.heap.size + 1, 2, none⟩) hzc).trans c2
      replace cf2 := (hb3.frozen (p := ⟨w2.heap.size + 1, 2, none⟩) hzc).trans cf2
      replace hzc := Nat.lt_of_lt_of_le hzc hb3.size
      replace hbW := Lib.hid (hbW.out.trans (hb3.mono hbW.out.size))
      go_wp2_with (go_step)
      refine (daysOf_any _ _ _ _ (by omega) (by omega) (by omega) (by omega) (by omega) (by omega)).mono ?_
      rintro e w3' ⟨rfl, hb3'⟩
      replace a0 := (hb3'.cell (p := ⟨w.heap.size, 0, none⟩) hza).trans a0
      replace af0 := (hb3'.frozen (p := ⟨w.heap.size, 0, none⟩) hza).trans af0
      replace a1 := (hb3'.cell (p := ⟨w.heap.size, 1, none⟩) hza).trans a1
      replace af1 := (hb3'.frozen (p := ⟨w.heap.size, 1, none⟩) hza).trans af1
      replace a2 := (hb3'.cell (p := ⟨w.heap.size, 2, none⟩) hza).trans a2
      replace af2 := (hb3'.frozen (p := ⟨w.heap.size, 2, none⟩) hza).trans af2
      replace hza := Nat.lt_of_lt_of_le hza hb3'.size
      replace b0 := (hb3'.cell (p := ⟨w2.heap.size, 0, none⟩) hzb).trans b0
      replace bf0 := (hb3'.frozen (p := ⟨w2.heap.size, 0, none⟩) hzb).trans bf0
      replace b1 := (hb3'.cell (p := ⟨w2.heap.size, 1, none⟩) hzb).trans b1
      replace bf1 := (hb3'.frozen (p := ⟨w2.heap.size, 1, none⟩) hzb).trans bf1
      replace b2 := (hb3'.cell (p := ⟨w2.heap.size, 2, none⟩) hzb).trans b2
      replace bf2 := (hb3'.frozen (p := ⟨w2.heap.size, 2, none⟩) hzb).trans bf2
      replace hzb := Nat.lt_of_lt_of_le hzb hb3'.size
      replace c0 := (hb3'.cell (p := ⟨w2.heap.size + 1, 0, none⟩) hzc).trans c0
      replace cf0 := (hb3'.frozen (p := ⟨w2.heap.size + 1, 0, none⟩) hzc).trans cf0
      replace c1 := (hb3'.cell (p := ⟨w2.heap.size + 1, 1, none⟩) hzc).trans c1
      replace cf1 := (hb3'.frozen (p := ⟨w2.heap.size + 1, 1, none⟩) hzc).trans cf1
      replace c2 := (hb3'.cell (p := ⟨w2.heap.size + 1, 2, none⟩) hzc).trans c2
      replace cf2 := (hb3'.frozen (p := ⟨w2.heap.size + 1, 2, none⟩) hzc).trans cf2
      replace hzc := Nat.lt_of_lt_of_le hzc hb3'.size
      replace hbW := Lib.hid (hbW.out.trans (hb3'.mono hbW.out.size))
      go_wp2_with (go_step)
      refine (firstDay_any _).mono ?_
      rintro e w4 ⟨rfl, hb4⟩
      replace a0 := (hb4.cell (p := ⟨w.heap.size, 0, none⟩) hza).trans a0
      replace af0 := (hb4.frozen (p := ⟨w.heap.size, 0, none⟩) hza).trans af0
      replace a1 := (hb4.cell (p := ⟨w.heap.size, 1, none⟩) hza).trans a1
      replace af1 := (hb4.frozen (p := ⟨w.heap.size, 1, none⟩) hza).trans af1
      replace a2 := (hb4.cell (p := ⟨w.heap.size, 2, none⟩) hza).trans a2
      replace af2 := (hb4.frozen (p := ⟨w.heap.size, 2, none⟩) hza).trans af2
      replace hza := Nat.lt_of_lt_of_le hza hb4.size
      replace b0 := (hb4.cell (p := ⟨w2.heap.size, 0, none⟩) hzb).trans b0
      replace bf0 := (hb4.frozen (p := ⟨w2.heap.size, 0, none⟩) hzb).trans bf0
      replace b1 := (hb4.cell (p := ⟨w2.heap.size, 1, none⟩) hzb).trans b1
      replace bf1 := (hb4.frozen (p := ⟨w2.heap.size, 1, none⟩) hzb).trans bf1
      replace b2 := (hb4.cell (p := ⟨w2.heap.size, 2, none⟩) hzb).trans b2
      replace bf2 := (hb4.frozen (p := ⟨w2.heap.size, 2, none⟩) hzb).trans bf2
      replace hzb := Nat.lt_of_lt_of_le hzb hb4.size
      replace c0 := (hb4.cell (p := ⟨w2.heap.size + 1, 0, none⟩) hzc).trans c0
      replace cf0 := (hb4.frozen (p := ⟨w2.heap.size + 1, 0, none⟩) hzc).trans cf0
      replace c1 := (hb4.cell (p := ⟨w2.heap.size + 1, 1, none⟩) hzc).trans c1
      replace cf1 := (hb4.frozen (p := ⟨w2.heap.size + 1, 1, none⟩) hzc).trans cf1
      replace c2 := (hb4.cell (p := ⟨w2.heap.size + 1, 2, none⟩) hzc).trans c2
      replace cf2 := (hb4.frozen (p := ⟨w2.heap.size + 1, 2, none⟩) hzc).trans cf2
      replace hzc := Nat.lt_of_lt_of_le hzc hb4.size
      replace hbW := Lib.hid (hbW.out.trans (hb4.mono hbW.out.size))
      go_wp2_with (go_step)
      refine (lastDay_any _).mono ?_
      rintro e w5 ⟨rfl, hb5⟩
      replace a0 := (hb5.cell (p := ⟨w.heap.size, 0, none⟩) hza).trans a0
      replace af0 := (hb5.frozen (p := ⟨w.heap.size, 0, none⟩) hza).trans af0
      replace a1 := (hb5.cell (p := ⟨w.heap.size, 1, none⟩) hza).trans a1
      replace af1 := (hb5.frozen (p := ⟨w.heap.size, 1, none⟩) hza).trans af1
      replace a2 := (hb5.cell (p := ⟨w.heap.size, 2, none⟩) hza).trans a2
      replace af2 := (hb5.frozen (p := ⟨w.heap.size, 2, none⟩) hza).trans af2
      replace hza := Nat.lt_of_lt_of_le hza hb5.size
      replace b0 := (hb5.cell (p := ⟨w2.heap.size, 0, none⟩) hzb).trans b0
      replace bf0 := (hb5.frozen (p := ⟨w2.heap.size, 0, none⟩) hzb).trans bf0
      replace b1 := (hb5.cell (p := ⟨w2.heap.size, 1, none⟩) hzb).trans b1
      replace bf1 := (hb5.frozen (p := ⟨w2.heap.size, 1, none⟩) hzb).trans bf1
      replace b2 := (hb5.cell (p := ⟨w2.heap.size, 2, none⟩) hzb).trans b2
      replace bf2 := (hb5.frozen (p := ⟨w2.heap.size, 2, none⟩) hzb).trans bf2
      replace hzb := Nat.lt_of_lt_of_le hzb hb5.size
      replace c0 := (hb5.cell (p := ⟨w2.heap.size + 1, 0, none⟩) hzc).trans c0
      replace cf0 := (hb5.frozen (p := ⟨w2.heap.size + 1, 0, none⟩) hzc).trans cf0
      replace c1 := (hb5.cell (p := ⟨w2.heap.size + 1, 1, none⟩) hzc).trans c1
      replace cf1 := (hb5.frozen (p := ⟨w2.heap.size + 1, 1, none⟩) hzc).trans cf1
      replace c2 := (hb5.cell (p := ⟨w2.heap.size + 1, 2, none⟩) hzc).trans c2
      replace cf2 := (hb5.frozen (p := ⟨w2.heap.size + 1, 2, none⟩) hzc).trans cf2
      replace hzc := Nat.lt_of_lt_of_le hzc hb5.size
      replace hbW := Lib.hid (hbW.out.trans (hb5.mono hbW.out.size))
      go_wp2_with (go_step)
      refine (refDateOf_any _ _ hr.1 hr.2).mono ?_
      rintro e w6 ⟨rfl, hb6⟩
      rw [HP.out]; dsimp only [dv]
      replace a0 := (hb6.cell (p := ⟨w.heap.size, 0, none⟩) hza).trans a0
      replace af0 := (hb6.frozen (p := ⟨w.heap.size, 0, none⟩) hza).trans af0
      replace a1 := (hb6.cell (p := ⟨w.heap.size, 1, none⟩) hza).trans a1
      replace af1 := (hb6.frozen (p := ⟨w.heap.size, 1, none⟩) hza).trans af1
      replace a2 := (hb6.cell (p := ⟨w.heap.size, 2, none⟩) hza).trans a2
      replace af2 := (hb6.frozen (p := ⟨w.heap.size, 2, none⟩) hza).trans af2
      replace hza := Nat.lt_of_lt_of_le hza hb6.size
      replace b0 := (hb6.cell (p := ⟨w2.heap.size, 0, none⟩) hzb).trans b0
      replace bf0 := (hb6.frozen (p := ⟨w2.heap.size, 0, none⟩) hzb).trans bf0
      replace b1 := (hb6.cell (p := ⟨w2.heap.size, 1, none⟩) hzb).trans b1
      replace bf1 := (hb6.frozen (p := ⟨w2.heap.size, 1, none⟩) hzb).trans bf1
      replace b2 := (hb6.cell (p := ⟨w2.heap.size, 2, none⟩) hzb).trans b2
      replace bf2 := (hb6.frozen (p := ⟨w2.heap.size, 2, none⟩) hzb).trans bf2
      replace hzb := Nat.lt_of_lt_of_le hzb hb6.size
      replace c0 := (hb6.cell (p := ⟨w2.heap.size + 1, 0, none⟩) hzc).trans c0
      replace cf0 := (hb6.frozen (p := ⟨w2.heap.size + 1, 0, none⟩) hzc).trans cf0
      replace c1 := (hb6.cell (p := ⟨w2.heap.size + 1, 1, none⟩) hzc).trans c1
      replace cf1 := (hb6.frozen (p := ⟨w2.heap.size + 1, 1, none⟩) hzc).trans cf1
      replace c2 := (hb6.cell (p := ⟨w2.heap.size + 1, 2, none⟩) hzc).trans c2
      replace cf2 := (hb6.frozen (p := ⟨w2.heap.size + 1, 2, none⟩) hzc).trans cf2
      replace hzc := Nat.lt_of_lt_of_le hzc hb6.size
      replace hbW := Lib.hid (hbW.out.trans (hb6.mono hbW.out.size))
      go_wp2_with (go_step)
      generalize hX_ : (((w6.setCell ⟨w2.heap.size + 1, 0, none⟩ (.int .i64 y')).setCell ⟨w2.heap.size + 1, 1, none⟩ (.int .i64 m')).setCell ⟨w2.heap.size + 1, 2, none⟩ (.int .i64 d')) = X
      replace c0 : X.cell? ⟨w2.heap.size + 1, 0, none⟩ = some (.int .i64 y') := by rw [← hX_]; exact (cset_o (cset_o (cset_s c0) (by simp)) (by simp))
      replace cf0 : X.frozen? ⟨w2.heap.size + 1, 0, none⟩ = false := by rw [← hX_]; exact (fset (fset (fset cf0)))
      replace c1 : X.cell? ⟨w2.heap.size + 1, 1, none⟩ = some (.int .i64 m') := by rw [← hX_]; exact (cset_o (cset_s (cset_o c1 (by simp))) (by simp))
      replace cf1 : X.frozen? ⟨w2.heap.size + 1, 1, none⟩ = false := by rw [← hX_]; exact (fset (fset (fset cf1)))
      replace c2 : X.cell? ⟨w2.heap.size + 1, 2, none⟩ = some (.int .i64 d') := by rw [← hX_]; exact (cset_s (cset_o (cset_o c2 (by simp)) (by simp)))
      replace cf2 : X.frozen? ⟨w2.heap.size + 1, 2, none⟩ = false := by rw [← hX_]; exact (fset (fset (fset cf2)))
      replace a0 := (show X.cell? ⟨w.heap.size, 0, none⟩ = w6.cell? ⟨w.heap.size, 0, none⟩ from by rw [← hX_]; exact ((World.cell?_setCell_other _ _ _ _ (by first | (simp; done) | (simp; omega))).trans ((World.cell?_setCell_other _ _ _ _ (by first | (simp; done) | (simp; omega))).trans (World.cell?_setCell_other _ _ _ _ (by first | (simp; done) | (simp; omega)))))).trans a0
      replace af0 := (show X.frozen? ⟨w.heap.size, 0, none⟩ = w6.frozen? ⟨w.heap.size, 0, none⟩ from by rw [← hX_]; exact ((World.frozen?_setCell _ _ _ _).trans ((World.frozen?_setCell _ _ _ _).trans (World.frozen?_setCell _ _ _ _)))).trans af0
      replace a1 := (show X.cell? ⟨w.heap.size, 1, none⟩ = w6.cell? ⟨w.heap.size, 1, none⟩ from by rw [← hX_]; exact ((World.cell?_setCell_other _ _ _ _ (by first | (simp; done) | (simp; omega))).trans ((World.cell?_setCell_other _ _ _ _ (by first | (simp; done) | (simp; omega))).trans (World.cell?_setCell_other _ _ _ _ (by first | (simp; done) | (simp; omega)))))).trans a1
      replace af1 := (show X.frozen? ⟨w.heap.size, 1, none⟩ = w6.frozen? ⟨w.heap.size, 1, none⟩ from by rw [← hX_]; exact ((World.frozen?_setCell _ _ _ _).trans ((World.frozen?_setCell _ _ _ _).trans (World.frozen?_setCell _ _ _ _)))).trans af1
      replace a2 := (show X.cell? ⟨w.heap.size, 2, none⟩ = w6.cell? ⟨w.heap.size, 2, none⟩ from by rw [← hX_]; exact ((World.cell?_setCell_other _ _ _ _ (by first | (simp; done) | (simp; omega))).trans ((World.cell?_setCell_other _ _ _ _ (by first | (simp; done) | (simp; omega))).trans (World.cell?_setCell_other _ _ _ _ (by first | (simp; done) | (simp; omega)))))).trans a2
      replace af2 := (show X.frozen? ⟨w.heap.size, 2, none⟩ = w6.frozen? ⟨w.heap.size, 2, none⟩ from by rw [← hX_]; exact ((World.frozen?_setCell _ _ _ _).trans ((World.frozen?_setCell _ _ _ _).trans (World.frozen?_setCell _ _ _ _)))).trans af2
      replace hza : w.heap.size < X.heap.size := by rw [← hX_]; simpa using hza
      replace b0 := (show X.cell? ⟨w2.heap.size, 0, none⟩ = w6.cell? ⟨w2.heap.size, 0, none⟩ from by rw [← hX_]; exact ((World.cell?_setCell_other _ _ _ _ (by first | (simp; done) | (simp; omega))).trans ((World.cell?_setCell_other _ _ _ _ (by first | (simp; done) | (simp; omega))).trans (World.cell?_setCell_other _ _ _ _ (by first | (simp; done) | (simp; omega)))))).trans b0
      replace bf0 := (show X.frozen? ⟨w2.heap.size, 0, none⟩ = w6.frozen? ⟨w2.heap.size, 0, none⟩ from by rw [← hX_]; exact ((World.frozen?_setCell _ _ _ _).trans ((World.frozen?_setCell _ _ _ _).trans (World.frozen?_setCell _ _ _ _)))).trans bf0
      replace b1 := (show X.cell? ⟨w2.heap.size, 1, none⟩ = w6.cell? ⟨w2.heap.size, 1, none⟩ from by rw [← hX_]; exact ((World.cell?_setCell_other _ _ _ _ (by first | (simp; done) | (simp; omega))).trans ((World.cell?_setCell_other _ _ _ _ (by first | (simp; done) | (simp; omega))).trans (World.cell?_setCell_other _ _ _ _ (by first | (simp; done) | (simp; omega)))))).trans b1
      replace bf1 := (show X.frozen? ⟨w2.heap.size, 1, none⟩ = w6.frozen? ⟨w2.heap.size, 1, none⟩ from by rw [← hX_]; exact ((World.frozen?_setCell _ _ _ _).trans ((World.frozen?_setCell _ _ _ _).trans (World.frozen?_setCell _ _ _ _)))).trans bf1
      replace b2 := (show X.cell? ⟨w2.heap.size, 2, none⟩ = w6.cell? ⟨w2.heap.size, 2, none⟩ from by rw [← hX_]; exact ((World.cell?_setCell_other _ _ _ _ (by first | (simp; done) | (simp; omega))).trans ((World.cell?_setCell_other _ _ _ _ (by first | (simp; done) | (simp; omega))).trans (World.cell?_setCell_other _ _ _ _ (by first | (simp; done) | (simp; omega)))))).trans b2
      replace bf2 := (show X.frozen? ⟨w2.heap.size, 2, none⟩ = w6.frozen? ⟨w2.heap.size, 2, none⟩ from by rw [← hX_]; exact ((World.frozen?_setCell _ _ _ _).trans ((World.frozen?_setCell _ _ _ _).trans (World.frozen?_setCell _ _ _ _)))).trans bf2
      replace hzb : w2.heap.size < X.heap.size := by rw [← hX_]; simpa using hzb
      replace hzc : w2.heap.size + 1 < X.heap.size := by rw [← hX_]; simpa using hzc
      replace hbW : Hid (Below w.heap.size w X) := Lib.hid (by rw [← hX_]; exact (((hbW.out.setCell (p := ⟨w2.heap.size + 1, 0, none⟩) lwc _).setCell (p := ⟨w2.heap.size + 1, 1, none⟩) lwc _).setCell (p := ⟨w2.heap.size + 1, 2, none⟩) lwc _))
      clear hX_
      refine (civilBegun_any _).mono ?_
      rintro e w7 ⟨rfl, hb7⟩
      replace a0 := (hb7.cell (p := ⟨w.heap.size, 0, none⟩) hza).trans a0
      replace af0 := (hb7.frozen (p := ⟨w.heap.size, 0, none⟩) hza).trans af0
      replace a1 := (hb7.cell (p := ⟨w.heap.size, 1, none⟩) hza).trans a1
      replace af1 := (hb7.frozen (p := ⟨w.heap.size, 1, none⟩) hza).trans af1
      replace a2 := (hb7.cell (p := ⟨w.heap.size, 2, none⟩) hza).trans a2
      replace af2 := (hb7.frozen (p := ⟨w.heap.size, 2, none⟩) hza).trans af2
      replace hza := Nat.lt_of_lt_of_le hza hb7.size
      replace b0 := (hb7.cell (p := ⟨w2.heap.size, 0, none⟩) hzb).trans b0
      replace bf0 := (hb7.frozen (p := ⟨w2.heap.size, 0, none⟩) hzb).trans bf0
      replace b1 := (hb7.cell (p := ⟨w2.heap.size, 1, none⟩) hzb).trans b1
      replace bf1 := (hb7.frozen (p := ⟨w2.heap.size, 1, none⟩) hzb).trans bf1
      replace b2 := (hb7.cell (p := ⟨w2.heap.size, 2, none⟩) hzb).trans b2
      replace bf2 := (hb7.frozen (p := ⟨w2.heap.size, 2, none⟩) hzb).trans bf2
      replace hzb := Nat.lt_of_lt_of_le hzb hb7.size
      replace c0 := (hb7.cell (p := ⟨w2.heap.size + 1, 0, none⟩) hzc).trans c0
      replace cf0 := (hb7.frozen (p := ⟨w2.heap.size + 1, 0, none⟩) hzc).trans cf0
      replace c1 := (hb7.cell (p := ⟨w2.heap.size + 1, 1, none⟩) hzc).trans c1
      replace cf1 := (hb7.frozen (p := ⟨w2.heap.size + 1, 1, none⟩) hzc).trans cf1
      replace c2 := (hb7.cell (p := ⟨w2.heap.size + 1, 2, none⟩) hzc).trans c2
      replace cf2 := (hb7.frozen (p := ⟨w2.heap.size + 1, 2, none⟩) hzc).trans cf2
      replace hzc := Nat.lt_of_lt_of_le hzc hb7.size
      replace hbW := Lib.hid (hbW.out.trans (hb7.mono hbW.out.size))
      go_wp2_with (first | (go_at_call 11; refine (weekday_any _ _).mono ?_; rintro e w' ⟨rfl, rfl⟩) | (go_at_call 18; refine (weekdayOf_any _ _).mono ?_; rintro e w' ⟨rfl, rfl⟩))
      go_ret
      exact ⟨ret_bool (by simp), hbW.out⟩
  · have hr' : n < -719162 ∨ 2932896 < n := by omega
    cases h1 : isDate y m d
    · have h1' := Lib.hid h1; clear h1
      go_enter Try.func5, Try.ntmps5
      go_wp2_with (go_step)
      generalize hW_ : w.alloc (.cells #[.int .i64 y, .int .i64 m, .int .i64 d] 23) = W
      have a0 : W.cell? ⟨w.heap.size, 0, none⟩ = some (.int .i64 y) := by subst hW_; simp
      have af0 : W.frozen? ⟨w.heap.size, 0, none⟩ = false := by subst hW_; simp
      have a1 : W.cell? ⟨w.heap.size, 1, none⟩ = some (.int .i64 m) := by subst hW_; simp
      have af1 : W.frozen? ⟨w.heap.size, 1, none⟩ = false := by subst hW_; simp
      have a2 : W.cell? ⟨w.heap.size, 2, none⟩ = some (.int .i64 d) := by subst hW_; simp
      have af2 : W.frozen? ⟨w.heap.size, 2, none⟩ = false := by subst hW_; simp
      have lwa := hbW.out.size
      have hb_ : Below w.heap.size w W := by subst hW_; exact (Below.refl _ _).alloc (Nat.le_refl _) _
      have hza : w.heap.size < W.heap.size := by subst hW_; simp
      clear hW_
      replace hbW := Lib.hid (hbW.out.trans (hb_.mono hbW.out.size))
      clear hb_
      refine (days_no _ _ _ _ h1'.out).mono ?_
      rintro e w1 ⟨rfl, hb1⟩
      replace a0 := (hb1.cell (p := ⟨w.heap.size, 0, none⟩) hza).trans a0
      replace af0 := (hb1.frozen (p := ⟨w.heap.size, 0, none⟩) hza).trans af0
      replace a1 := (hb1.cell (p := ⟨w.heap.size, 1, none⟩) hza).trans a1
      replace af1 := (hb1.frozen (p := ⟨w.heap.size, 1, none⟩) hza).trans af1
      replace a2 := (hb1.cell (p := ⟨w.heap.size, 2, none⟩) hza).trans a2
      replace af2 := (hb1.frozen (p := ⟨w.heap.size, 2, none⟩) hza).trans af2
      replace hza := Nat.lt_of_lt_of_le hza hb1.size
      replace hbW := Lib.hid (hbW.out.trans (hb1.mono hbW.out.size))
      go_wp2_with (go_step)
      refine (of_no _ _ hr').mono ?_
      rintro e w2 ⟨rfl, hb2⟩
      dsimp only [dv]
      replace a0 := (hb2.cell (p := ⟨w.heap.size, 0, none⟩) hza).trans a0
      replace af0 := (hb2.frozen (p := ⟨w.heap.size, 0, none⟩) hza).trans af0
      replace a1 := (hb2.cell (p := ⟨w.heap.size, 1, none⟩) hza).trans a1
      replace af1 := (hb2.frozen (p := ⟨w.heap.size, 1, none⟩) hza).trans af1
      replace a2 := (hb2.cell (p := ⟨w.heap.size, 2, none⟩) hza).trans a2
      replace af2 := (hb2.frozen (p := ⟨w.heap.size, 2, none⟩) hza).trans af2
      replace hza := Nat.lt_of_lt_of_le hza hb2.size
      replace hbW := Lib.hid (hbW.out.trans (hb2.mono hbW.out.size))
      go_wp2_with (go_step)
      generalize hW_ : (w2.alloc (.cells #[.int .i64 0, .int .i64 0, .int .i64 0] 23)).alloc (.cells #[.int .i64 0, .int .i64 0, .int .i64 0] 23) = U
      have b0 : U.cell? ⟨w2.heap.size, 0, none⟩ = some (.int .i64 0) := by subst hW_; simp
      have bf0 : U.frozen? ⟨w2.heap.size, 0, none⟩ = false := by subst hW_; simp
      have b1 : U.cell? ⟨w2.heap.size, 1, none⟩ = some (.int .i64 0) := by subst hW_; simp
      have bf1 : U.frozen? ⟨w2.heap.size, 1, none⟩ = false := by subst hW_; simp
      have b2 : U.cell? ⟨w2.heap.size, 2, none⟩ = some (.int .i64 0) := by subst hW_; simp
      have bf2 : U.frozen? ⟨w2.heap.size, 2, none⟩ = false := by subst hW_; simp
      have lwb := hbW.out.size
      have lab := hza
      have hzb : w2.heap.size < U.heap.size := by subst hW_; first | (simp; done) | (simp; omega)
      have c0 : U.cell? ⟨w2.heap.size + 1, 0, none⟩ = some (.int .i64 0) := by subst hW_; simp
      have cf0 : U.frozen? ⟨w2.heap.size + 1, 0, none⟩ = false := by subst hW_; simp
      have c1 : U.cell? ⟨w2.heap.size + 1, 1, none⟩ = some (.int .i64 0) := by subst hW_; simp
      have cf1 : U.frozen? ⟨w2.heap.size + 1, 1, none⟩ = false := by subst hW_; simp
      have c2 : U.cell? ⟨w2.heap.size + 1, 2, none⟩ = some (.int .i64 0) := by subst hW_; simp
      have cf2 : U.frozen? ⟨w2.heap.size + 1, 2, none⟩ = false := by subst hW_; simp
      have lwc := Nat.le_succ_of_le hbW.out.size
      have lac := Nat.lt_succ_of_lt hza
      have hzc : w2.heap.size + 1 < U.heap.size := by subst hW_; first | (simp; done) | (simp; omega)
      have hb_ : Below w2.heap.size w2 U := by subst hW_; exact ((Below.refl _ _).alloc (Nat.le_refl _) _).alloc (by simp) _
      clear hW_
      replace a0 := (hb_.cell (p := ⟨w.heap.size, 0, none⟩) hza).trans a0
      replace af0 := (hb_.frozen (p := ⟨w.heap.size, 0, none⟩) hza).trans af0
      replace a1 := (hb_.cell (p := ⟨w.heap.size, 1, none⟩) hza).trans a1
      replace af1 := (hb_.frozen (p := ⟨w.heap.size, 1, none⟩) hza).trans af1
      replace a2 := (hb_.cell (p := ⟨w.heap.size, 2, none⟩) hza).trans a2
      replace af2 := (hb_.frozen (p := ⟨w.heap.size, 2, none⟩) hza).trans af2
      replace hza := Nat.lt_of_lt_of_le hza hb_.size
      replace hbW := Lib.hid (hbW.out.trans (hb_.mono hbW.out.size))
      clear hb_
      refine (isDate_any _ _ _ _).mono ?_
      rintro e w3 ⟨rfl, hb3⟩
      rw [h1'.out]
      replace a0 := (hb3.cell (p := ⟨w.heap.size, 0, none⟩) hza).trans a0
      replace af0 := (hb3.frozen (p := ⟨w.heap.size, 0, none⟩) hza).trans af0
      replace a1 := (hb3.cell (p := ⟨w.heap.size, 1, none⟩) hza).trans a1
      replace af1 := (hb3.frozen (p := ⟨w.heap.size, 1, none⟩) hza).trans af1
      replace a2 := (hb3.cell (p := ⟨w.heap.size, 2, none⟩) hza).trans a2
      replace af2 := (hb3.frozen (p := ⟨w.heap.size, 2, none⟩) hza).trans af2
      replace hza := Nat.lt_of_lt_of_le hza hb3.size
      replace b0 := (hb3.cell (p := ⟨w2.heap.size, 0, none⟩) hzb).trans b0
      replace bf0 := (hb3.frozen (p := ⟨w2.heap.size, 0, none⟩) hzb).trans bf0
      replace b1 := (hb3.cell (p := ⟨w2.heap.size, 1, none⟩) hzb).trans b1
      replace bf1 := (hb3.frozen (p := ⟨w2.heap.size, 1, none⟩) hzb).trans bf1
      replace b2 := (hb3.cell (p := ⟨w2.heap.size, 2, none⟩) hzb).trans b2
      replace bf2 := (hb3.frozen (p := ⟨w2.heap.size, 2, none⟩) hzb).trans bf2
      replace hzb := Nat.lt_of_lt_of_le hzb hb3.size
      replace c0 := (hb3.cell (p := ⟨w2.heap.size + 1, 0, none⟩) hzc).trans c0
      replace cf0 := (hb3.frozen (p := ⟨w2.heap.size + 1, 0, none⟩) hzc).trans cf0
      replace c1 := (hb3.cell (p := ⟨w2.heap.size + 1, 1, none⟩) hzc).trans c1
      replace cf1 := (hb3.frozen (p := ⟨w2.heap.size + 1, 1, none⟩) hzc).trans cf1
      replace c2 := (hb3.cell (p := ⟨w2.heap.size + 1, 2, none⟩) hzc).trans c2
      replace cf2 := (hb3.frozen (p := ⟨w2.heap.size + 1, 2, none⟩) hzc).trans cf2
      replace hzc := Nat.lt_of_lt_of_le hzc hb3.size
      replace hbW := Lib.hid (hbW.out.trans (hb3.mono hbW.out.size))
      go_wp2_with (go_step)
      refine (firstDay_any _).mono ?_
      rintro e w4 ⟨rfl, hb4⟩
      replace a0 := (hb4.cell (p := ⟨w.heap.size, 0, none⟩) hza).trans a0
      replace af0 := (hb4.frozen (p := ⟨w.heap.size, 0, none⟩) hza).trans af0
      replace a1 := (hb4.cell (p := ⟨w.heap.size, 1, none⟩) hza).trans a1
      replace af1 := (hb4.frozen (p := ⟨w.heap.size, 1, none⟩) hza).trans af1
      replace a2 := (hb4.cell (p := ⟨w.heap.size, 2, none⟩) hza).trans a2
      replace af2 := (hb4.frozen (p := ⟨w.heap.size, 2, none⟩) hza).trans af2
      replace hza := Nat.lt_of_lt_of_le hza hb4.size
      replace b0 := (hb4.cell (p := ⟨w2.heap.size, 0, none⟩) hzb).trans b0
      replace bf0 := (hb4.frozen (p := ⟨w2.heap.size, 0, none⟩) hzb).trans bf0
      replace b1 := (hb4.cell (p := ⟨w2.heap.size, 1, none⟩) hzb).trans b1
      replace bf1 := (hb4.frozen (p := ⟨w2.heap.size, 1, none⟩) hzb).trans bf1
      replace b2 := (hb4.cell (p := ⟨w2.heap.size, 2, none⟩) hzb).trans b2
      replace bf2 := (hb4.frozen (p := ⟨w2.heap.size, 2, none⟩) hzb).trans bf2
      replace hzb := Nat.lt_of_lt_of_le hzb hb4.size
      replace c0 := (hb4.cell (p := ⟨w2.heap.size + 1, 0, none⟩) hzc).trans c0
      replace cf0 := (hb4.frozen (p := ⟨w2.heap.size + 1, 0, none⟩) hzc).trans cf0
      replace c1 := (hb4.cell (p := ⟨w2.heap.size + 1, 1, none⟩) hzc).trans c1
      replace cf1 := (hb4.frozen (p := ⟨w2.heap.size + 1, 1, none⟩) hzc).trans cf1
      replace c2 := (hb4.cell (p := ⟨w2.heap.size + 1, 2, none⟩) hzc).trans c2
      replace cf2 := (hb4.frozen (p := ⟨w2.heap.size + 1, 2, none⟩) hzc).trans cf2
      replace hzc := Nat.lt_of_lt_of_le hzc hb4.size
      replace hbW := Lib.hid (hbW.out.trans (hb4.mono hbW.out.size))
      rcases hr' with hr' | hr'
      · go_wp2_with (go_step)
        refine (civilBegun_any _).mono ?_
        rintro e w7 ⟨rfl, hb7⟩
        replace a0 := (hb7.cell (p := ⟨w.heap.size, 0, none⟩) hza).trans a0
        replace af0 := (hb7.frozen (p := ⟨w.heap.size, 0, none⟩) hza).trans af0
        replace a1 := (hb7.cell (p := ⟨w.heap.size, 1, none⟩) hza).trans a1
        replace af1 := (hb7.frozen (p := ⟨w.heap.size, 1, none⟩) hza).trans af1
        replace a2 := (hb7.cell (p := ⟨w.heap.size, 2, none⟩) hza).trans a2
        replace af2 := (hb7.frozen (p := ⟨w.heap.size, 2, none⟩) hza).trans af2
        replace hza := Nat.lt_of_lt_of_le hza hb7.size
        replace b0 := (hb7.cell (p := ⟨w2.heap.size, 0, none⟩) hzb).trans b0
        replace bf0 := (hb7.frozen (p := ⟨w2.heap.size, 0, none⟩) hzb).trans bf0
        replace b1 := (hb7.cell (p := ⟨w2.heap.size, 1, none⟩) hzb).trans b1
        replace bf1 := (hb7.frozen (p := ⟨w2.heap.size, 1, none⟩) hzb).trans bf1
        replace b2 := (hb7.cell (p := ⟨w2.heap.size, 2, none⟩) hzb).trans b2
        replace bf2 := (hb7.frozen (p := ⟨w2.heap.size, 2, none⟩) hzb).trans bf2
        replace hzb := Nat.lt_of_lt_of_le hzb hb7.size
        replace c0 := (hb7.cell (p := ⟨w2.heap.size + 1, 0, none⟩) hzc).trans c0
        replace cf0 := (hb7.frozen (p := ⟨w2.heap.size + 1, 0, none⟩) hzc).trans cf0
        replace c1 := (hb7.cell (p := ⟨w2.heap.size + 1, 1, none⟩) hzc).trans c1
        replace cf1 := (hb7.frozen (p := ⟨w2.heap.size + 1, 1, none⟩) hzc).trans cf1
        replace c2 := (hb7.cell (p := ⟨w2.heap.size + 1, 2, none⟩) hzc).trans c2
        replace cf2 := (hb7.frozen (p := ⟨w2.heap.size + 1, 2, none⟩) hzc).trans cf2
        replace hzc := Nat.lt_of_lt_of_le hzc hb7.size
        replace hbW := Lib.hid (hbW.out.trans (hb7.mono hbW.out.size))
        go_wp2_with (first | (go_at_call 11; refine (weekday_any _ _).mono ?_; rintro e w' ⟨rfl, rfl⟩) | (go_at_call 18; refine (weekdayOf_any _ _).mono ?_; rintro e w' ⟨rfl, rfl⟩))
        go_ret
        exact ⟨ret_bool (by simp), hbW.out⟩
      · have hr'' : ¬ n < -719162 := by omega
        go_wp2_with (go_step)
        refine (lastDay_any _).mono ?_
        rintro e w5 ⟨rfl, hb5⟩
        replace a0 := (hb5.cell (p := ⟨w.heap.size, 0, none⟩) hza).trans a0
        replace af0 := (hb5.frozen (p := ⟨w.heap.size, 0, none⟩) hza).trans af0
        replace a1 := (hb5.cell (p := ⟨w.heap.size, 1, none⟩) hza).trans a1
        replace af1 := (hb5.frozen (p := ⟨w.heap.size, 1, none⟩) hza).trans af1
        replace a2 := (hb5.cell (p := ⟨w.heap.size, 2, none⟩) hza).trans a2
        replace af2 := (hb5.frozen (p := ⟨w.heap.size, 2, none⟩) hza).trans af2
        replace hza := Nat.lt_of_lt_of_le hza hb5.size
        replace b0 := (hb5.cell (p := ⟨w2.heap.size, 0, none⟩) hzb).trans b0
        replace bf0 := (hb5.frozen (p := ⟨w2.heap.size, 0, none⟩) hzb).trans bf0
        replace b1 := (hb5.cell (p := ⟨w2.heap.size, 1, none⟩) hzb).trans b1
        replace bf1 := (hb5.frozen (p := ⟨w2.heap.size, 1, none⟩) hzb).trans bf1
        replace b2 := (hb5.cell (p := ⟨w2.heap.size, 2, none⟩) hzb).trans b2
        replace bf2 := (hb5.frozen (p := ⟨w2.heap.size, 2, none⟩) hzb).trans bf2
        replace hzb := Nat.lt_of_lt_of_le hzb hb5.size
        replace c0 := (hb5.cell (p := ⟨w2.heap.size + 1, 0, none⟩) hzc).trans c0
        replace cf0 := (hb5.frozen (p := ⟨w2.heap.size + 1, 0, none⟩) hzc).trans cf0
        replace c1 := (hb5.cell (p := ⟨w2.heap.size + 1, 1, none⟩) hzc).trans c1
        replace cf1 := (hb5.frozen (p := ⟨w2.heap.size + 1, 1, none⟩) hzc).trans cf1
        replace c2 := (hb5.cell (p := ⟨w2.heap.size + 1, 2, none⟩) hzc).trans c2
        replace cf2 := (hb5.frozen (p := ⟨w2.heap.size + 1, 2, none⟩) hzc).trans cf2
        replace hzc := Nat.lt_of_lt_of_le hzc hb5.size
        replace hbW := Lib.hid (hbW.out.trans (hb5.mono hbW.out.size))
        go_wp2_with (go_step)
        refine (civilBegun_any _).mono ?_
        rintro e w7 ⟨rfl, hb7⟩
        replace a0 := (hb7.cell (p := ⟨w.heap.size, 0, none⟩) hza).trans a0
        replace af0 := (hb7.frozen (p := ⟨w.heap.size, 0, none⟩) hza).trans af0
        replace a1 := (hb7.cell (p := ⟨w.heap.size, 1, none⟩) hza).trans a1
        replace af1 := (hb7.frozen (p := ⟨w.heap.size, 1, none⟩) hza).trans af1
        replace a2 := (hb7.cell (p := ⟨w.heap.size, 2, none⟩) hza).trans a2
        replace af2 := (hb7.frozen (p := ⟨w.heap.size, 2, none⟩) hza).trans af2
        replace hza := Nat.lt_of_lt_of_le hza hb7.size
        replace b0 := (hb7.cell (p := ⟨w2.heap.size, 0, none⟩) hzb).trans b0
        replace bf0 := (hb7.frozen (p := ⟨w2.heap.size, 0, none⟩) hzb).trans bf0
        replace b1 := (hb7.cell (p := ⟨w2.heap.size, 1, none⟩) hzb).trans b1
        replace bf1 := (hb7.frozen (p := ⟨w2.heap.size, 1, none⟩) hzb).trans bf1
        replace b2 := (hb7.cell (p := ⟨w2.heap.size, 2, none⟩) hzb).trans b2
        replace bf2 := (hb7.frozen (p := ⟨w2.heap.size, 2, none⟩) hzb).trans bf2
        replace hzb := Nat.lt_of_lt_of_le hzb hb7.size
        replace c0 := (hb7.cell (p := ⟨w2.heap.size + 1, 0, none⟩) hzc).trans c0
        replace cf0 := (hb7.frozen (p := ⟨w2.heap.size + 1, 0, none⟩) hzc).trans cf0
        replace c1 := (hb7.cell (p := ⟨w2.heap.size + 1, 1, none⟩) hzc).trans c1
        replace cf1 := (hb7.frozen (p := ⟨w2.heap.size + 1, 1, none⟩) hzc).trans cf1
        replace c2 := (hb7.cell (p := ⟨w2.heap.size + 1, 2, none⟩) hzc).trans c2
        replace cf2 := (hb7.frozen (p := ⟨w2.heap.size + 1, 2, none⟩) hzc).trans cf2
        replace hzc := Nat.lt_of_lt_of_le hzc hb7.size
        replace hbW := Lib.hid (hbW.out.trans (hb7.mono hbW.out.size))
        go_wp2_with (first | (go_at_call 11; refine (weekday_any _ _).mono ?_; rintro e w' ⟨rfl, rfl⟩) | (go_at_call 18; refine (weekdayOf_any _ _).mono ?_; rintro e w' ⟨rfl, rfl⟩))
        go_ret
        exact ⟨ret_bool (by simp), hbW.out⟩
    · have hi := isDate_iff.1 h1
      have hl := mlen_bd y m
      have h1' := Lib.hid h1; clear h1
      go_enter Try.func5, Try.ntmps5
      go_wp2_with (go_step)
      generalize hW_ : w.alloc (.cells #[.int .i64 y, .int .i64 m, .int .i64 d] 23) = W
      have a0 : W.cell? ⟨w.heap.size, 0, none⟩ = some (.int .i64 y) := by subst hW_; simp
      have af0 : W.frozen? ⟨w.heap.size, 0, none⟩ = false := by subst hW_; simp
      have a1 : W.cell? ⟨w.heap.size, 1, none⟩ = some (.int .i64 m) := by subst hW_; simp
      have af1 : W.frozen? ⟨w.heap.size, 1, none⟩ = false := by subst hW_; simp
      have a2 : W.cell? ⟨w.heap.size, 2, none⟩ = some (.int .i64 d) := by subst hW_; simp
      have af2 : W.frozen? ⟨w.heap.size, 2, none⟩ = false := by subst hW_; simp
      have lwa := hbW.out.size
      have hb_ : Below w.heap.size w W := by subst hW_; exact (Below.refl _ _).alloc (Nat.le_refl _) _
      have hza : w.heap.size < W.heap.size := by subst hW_; simp
      clear hW_
      replace hbW := Lib.hid (hbW.out.trans (hb_.mono hbW.out.size))
      clear hb_
      refine (days_ok _ _ _ _ h1'.out).mono ?_
      rintro e w1 ⟨rfl, hb1⟩
      replace a0 := (hb1.cell (p := ⟨w.heap.size, 0, none⟩) hza).trans a0
      replace af0 := (hb1.frozen (p := ⟨w.heap.size, 0, none⟩) hza).trans af0
      replace a1 := (hb1.cell (p := ⟨w.heap.size, 1, none⟩) hza).trans a1
      replace af1 := (hb1.frozen (p := ⟨w.heap.size, 1, none⟩) hza).trans af1
      replace a2 := (hb1.cell (p := ⟨w.heap.size, 2, none⟩) hza).trans a2
      replace af2 := (hb1.frozen (p := ⟨w.heap.size, 2, none⟩) hza).trans af2
      replace hza := Nat.lt_of_lt_of_le hza hb1.size
      replace hbW := Lib.hid (hbW.out.trans (hb1.mono hbW.out.size))
      go_wp2_with (go_step)
      refine (of_no _ _ hr').mono ?_
      rintro e w2 ⟨rfl, hb2⟩
      dsimp only [dv]
      replace a0 := (hb2.cell (p := ⟨w.heap.size, 0, none⟩) hza).trans a0
      replace af0 := (hb2.frozen (p := ⟨w.heap.size, 0, none⟩) hza).trans af0
      replace a1 := (hb2.cell (p := ⟨w.heap.size, 1, none⟩) hza).trans a1
      replace af1 := (hb2.frozen (p := ⟨w.heap.size, 1, none⟩) hza).trans af1
      replace a2 := (hb2.cell (p := ⟨w.heap.size, 2, none⟩) hza).trans a2
      replace af2 := (hb2.frozen (p := ⟨w.heap.size, 2, none⟩) hza).trans af2
      replace hza := Nat.lt_of_lt_of_le hza hb2.size
      replace hbW := Lib.hid (hbW.out.trans (hb2.mono hbW.out.size))
      go_wp2_with (go_step)
      generalize hW_ : (w2.alloc (.cells #[.int .i64 0, .int .i64 0, .int .i64 0] 23)).alloc (.cells #[.int .i64 0, .int .i64 0, .int .i64 0] 23) = U
      have b0 : U.cell? ⟨w2.heap.size, 0, none⟩ = some (.int .i64 0) := by subst hW_; simp
      have bf0 : U.frozen? ⟨w2.heap.size, 0, none⟩ = false := by subst hW_; simp
      have b1 : U.cell? ⟨w2.heap.size, 1, none⟩ = some (.int .i64 0) := by subst hW_; simp
      have bf1 : U.frozen? ⟨w2.heap.size, 1, none⟩ = false := by subst hW_; simp
      have b2 : U.cell? ⟨w2.heap.size, 2, none⟩ = some (.int .i64 0) := by subst hW_; simp
      have bf2 : U.frozen? ⟨w2.heap.size, 2, none⟩ = false := by subst hW_; simp
      have lwb := hbW.out.size
      have lab := hza
      have hzb : w2.heap.size < U.heap.size := by subst hW_; first | (simp; done) | (simp; omega)
      have c0 : U.cell? ⟨w2.heap.size + 1, 0, none⟩ = some (.int .i64 0) := by subst hW_; simp
      have cf0 : U.frozen? ⟨w2.heap.size + 1, 0, none⟩ = false := by subst hW_; simp
      have c1 : U.cell? ⟨w2.heap.size + 1, 1, none⟩ = some (.int .i64 0) := by subst hW_; simp
      have cf1 : U.frozen? ⟨w2.heap.size + 1, 1, none⟩ = false := by subst hW_; simp
      have c2 : U.cell? ⟨w2.heap.size + 1, 2, none⟩ = some (.int .i64 0) := by subst hW_; simp
      have cf2 : U.frozen? ⟨w2.heap.size + 1, 2, none⟩ = false := by subst hW_; simp
      have lwc := Nat.le_succ_of_le hbW.out.size
      have lac := Nat.lt_succ_of_lt hza
      have hzc : w2.heap.size + 1 < U.heap.size := by subst hW_; first | (simp; done) | (simp; omega)
      have hb_ : Below w2.heap.size w2 U := by subst hW_; exact ((Below.refl _ _).alloc (Nat.le_refl _) _).alloc (by simp) _
      clear hW_
      replace a0 := (hb_.cell (p := ⟨w.heap.size, 0, none⟩) hza).trans a0
      replace af0 := (hb_.frozen (p := ⟨w.heap.size, 0, none⟩) hza).trans af0
      replace a1 := (hb_.cell (p := ⟨w.heap.size, 1, none⟩) hza).trans a1
      replace af1 := (hb_.frozen (p := ⟨w.heap.size, 1, none⟩) hza).trans af1
      replace a2 := (hb_.cell (p := ⟨w.heap.size, 2, none⟩) hza).trans a2
      replace af2 := (hb_.frozen (p := ⟨w.heap.size, 2, none⟩) hza).trans af2
      replace hza := Nat.lt_of_lt_of_le hza hb_.size
      replace hbW := Lib.hid (hbW.out.trans (hb_.mono hbW.out.size))
      clear hb_
      refine (isDate_any _ _ _ _).mono ?_
      rintro e w3 ⟨rfl, hb3⟩
      rw [h1'.out]
      replace a0 := (hb3.cell (p := ⟨w.heap.size, 0, none⟩) hza).trans a0
      replace af0 := (hb3.frozen (p := ⟨w.heap.size, 0, none⟩) hza).trans af0
      replace a1 := (hb3.cell (p := ⟨w.heap.size, 1, none⟩) hza).trans a1
      replace af1 := (hb3.frozen (p := ⟨w.heap.size, 1, none⟩) hza).trans af1
      replace a2 := (hb3.cell (p := ⟨w.heap.size, 2, none⟩) hza).trans a2
      replace af2 := (hb3.frozen (p := ⟨w.heap.size, 2, none⟩) hza).trans af2
      replace hza := Nat.lt_of_lt_of_le hza hb3.size
      replace b0 := (hb3.cell (p := ⟨w2.heap.size, 0, none⟩) hzb).trans b0
      replace bf0 := (hb3.frozen (p := ⟨w2.heap.size, 0, none⟩) hzb).trans bf0
      replace b1 := (hb3.cell (p := ⟨w2.heap.size, 1, none⟩) hzb).trans b1
      replace bf1 := (hb3.frozen (p := ⟨w2.heap.size, 1, none⟩) hzb).trans bf1
      replace b2 := (hb3.cell (p := ⟨w2.heap.size, 2, none⟩) hzb).trans b2
      replace bf2 := (hb3.frozen (p := ⟨w2.heap.size, 2, none⟩) hzb).trans bf2
      replace hzb := Nat.lt_of_lt_of_le hzb hb3.size
      replace c0 := (hb3.cell (p := ⟨w2.heap.size + 1, 0, none⟩) hzc).trans c0
      replace cf0 := (hb3.frozen (p := ⟨w2.heap.size + 1, 0, none⟩) hzc).trans cf0
      replace c1 := (hb3.cell (p := ⟨w2.heap.size + 1, 1, none⟩) hzc).trans c1
      replace cf1 := (hb3.frozen (p := ⟨w2.heap.size + 1, 1, none⟩) hzc).trans cf1
      replace c2 := (hb3.cell (p := ⟨w2.heap.size + 1, 2, none⟩) hzc).trans c2
      replace cf2 := (hb3.frozen (p := ⟨w2.heap.size + 1, 2, none⟩) hzc).trans cf2
      replace hzc := Nat.lt_of_lt_of_le hzc hb3.size
      replace hbW := Lib.hid (hbW.out.trans (hb3.mono hbW.out.size))
      go_wp2_with (go_step)
      refine (daysOf_any _ _ _ _ (by omega) (by omega) (by omega) (by omega) (by omega) (by omega)).mono ?_
      rintro e w3' ⟨rfl, hb3'⟩
      replace a0 := (hb3'.cell (p := ⟨w.heap.size, 0, none⟩) hza).trans a0
      replace af0 := (hb3'.frozen (p := ⟨w.heap.size, 0, none⟩) hza).trans af0
      replace a1 := (hb3'.cell (p := ⟨w.heap.size, 1, none⟩) hza).trans a1
      replace af1 := (hb3'.frozen (p := ⟨w.heap.size, 1, none⟩) hza).trans af1
      replace a2 := (hb3'.cell (p := ⟨w.heap.size, 2, none⟩) hza).trans a2
      replace af2 := (hb3'.frozen (p := ⟨w.heap.size, 2, none⟩) hza).trans af2
      replace hza := Nat.lt_of_lt_of_le hza hb3'.size
      replace b0 := (hb3'.cell (p := ⟨w2.heap.size, 0, none⟩) hzb).trans b0
      replace bf0 := (hb3'.frozen (p := ⟨w2.heap.size, 0, none⟩) hzb).trans bf0
      replace b1 := (hb3'.cell (p := ⟨w2.heap.size, 1, none⟩) hzb).trans b1
      replace bf1 := (hb3'.frozen (p := ⟨w2.heap.size, 1, none⟩) hzb).trans bf1
      replace b2 := (hb3'.cell (p := ⟨w2.heap.size, 2, none⟩) hzb).trans b2
      replace bf2 := (hb3'.frozen (p := ⟨w2.heap.size, 2, none⟩) hzb).trans bf2
      replace hzb := Nat.lt_of_lt_of_le hzb hb3'.size
      replace c0 := (hb3'.cell (p := ⟨w2.heap.size + 1, 0, none⟩) hzc).trans c0
      replace cf0 := (hb3'.frozen (p := ⟨w2.heap.size + 1, 0, none⟩) hzc).trans cf0
      replace c1 := (hb3'.cell (p := ⟨w2.heap.size + 1, 1, none⟩) hzc).trans c1
      replace cf1 := (hb3'.frozen (p := ⟨w2.heap.size + 1, 1, none⟩) hzc).trans cf1
      replace c2 := (hb3'.cell (p := ⟨w2.heap.size + 1, 2, none⟩) hzc).trans c2
      replace cf2 := (hb3'.frozen (p := ⟨w2.heap.size + 1, 2, none⟩) hzc).trans cf2
      replace hzc := Nat.lt_of_lt_of_le hzc hb3'.size
      replace hbW := Lib.hid (hbW.out.trans (hb3'.mono hbW.out.size))
      go_wp2_with (go_step)
      refine (firstDay_any _).mono ?_
      rintro e w4 ⟨rfl, hb4⟩
      replace a0 := (hb4.cell (p := ⟨w.heap.size, 0, none⟩) hza).trans a0
      replace af0 := (hb4.frozen (p := ⟨w.heap.size, 0, none⟩) hza).trans af0
      replace a1 := (hb4.cell (p := ⟨w.heap.size, 1, none⟩) hza).trans a1
      replace af1 := (hb4.frozen (p := ⟨w.heap.size, 1, none⟩) hza).trans af1
      replace a2 := (hb4.cell (p := ⟨w.heap.size, 2, none⟩) hza).trans a2
      replace af2 := (hb4.frozen (p := ⟨w.heap.size, 2, none⟩) hza).trans af2
      replace hza := Nat.lt_of_lt_of_le hza hb4.size
      replace b0 := (hb4.cell (p := ⟨w2.heap.size, 0, none⟩) hzb).trans b0
      replace bf0 := (hb4.frozen (p := ⟨w2.heap.size, 0, none⟩) hzb).trans bf0
      replace b1 := (hb4.cell (p := ⟨w2.heap.size, 1, none⟩) hzb).trans b1
      replace bf1 := (hb4.frozen (p := ⟨w2.heap.size, 1, none⟩) hzb).trans bf1
      replace b2 := (hb4.cell (p := ⟨w2.heap.size, 2, none⟩) hzb).trans b2
      replace bf2 := (hb4.frozen (p := ⟨w2.heap.size, 2, none⟩) hzb).trans bf2
      replace hzb := Nat.lt_of_lt_of_le hzb hb4.size
      replace c0 := (hb4.cell (p := ⟨w2.heap.size + 1, 0, none⟩) hzc).trans c0
      replace cf0 := (hb4.frozen (p := ⟨w2.heap.size + 1, 0, none⟩) hzc).trans cf0
      replace c1 := (hb4.cell (p := ⟨w2.heap.size + 1, 1, none⟩) hzc).trans c1
      replace cf1 := (hb4.frozen (p := ⟨w2.heap.size + 1, 1, none⟩) hzc).trans cf1
      replace c2 := (hb4.cell (p := ⟨w2.heap.size + 1, 2, none⟩) hzc).trans c2
      replace cf2 := (hb4.frozen (p := ⟨w2.heap.size + 1, 2, none⟩) hzc).trans cf2
      replace hzc := Nat.lt_of_lt_of_le hzc hb4.size
      replace hbW := Lib.hid (hbW.out.trans (hb4.mono hbW.out.size))
      rcases hr' with hr' | hr'
      · go_wp2_with (go_step)
        refine (civilBegun_any _).mono ?_
        rintro e w7 ⟨rfl, hb7⟩
        replace a0 := (hb7.cell (p := ⟨w.heap.size, 0, none⟩) hza).trans a0
        replace af0 := (hb7.frozen (p := ⟨w.heap.size, 0, none⟩) hza).trans af0
        replace a1 := (hb7.cell (p := ⟨w.heap.size, 1, none⟩) hza).trans a1
        replace af1 := (hb7.frozen (p := ⟨w.heap.size, 1, none⟩) hza).trans af1
        replace a2 := (hb7.cell (p := ⟨w.heap.size, 2, none⟩) hza).trans a2
        replace af2 := (hb7.frozen (p := ⟨w.heap.size, 2, none⟩) hza).trans af2
        replace hza := Nat.lt_of_lt_of_le hza hb7.size
        replace b0 := (hb7.cell (p := ⟨w2.heap.size, 0, none⟩) hzb).trans b0
        replace bf0 := (hb7.frozen (p := ⟨w2.heap.size, 0, none⟩) hzb).trans bf0
        replace b1 := (hb7.cell (p := ⟨w2.heap.size, 1, none⟩) hzb).trans b1
        replace bf1 := (hb7.frozen (p := ⟨w2.heap.size, 1, none⟩) hzb).trans bf1
        replace b2 := (hb7.cell (p := ⟨w2.heap.size, 2, none⟩) hzb).trans b2
        replace bf2 := (hb7.frozen (p := ⟨w2.heap.size, 2, none⟩) hzb).trans bf2
        replace hzb := Nat.lt_of_lt_of_le hzb hb7.size
        replace c0 := (hb7.cell (p := ⟨w2.heap.size + 1, 0, none⟩) hzc).trans c0
        replace cf0 := (hb7.frozen (p := ⟨w2.heap.size + 1, 0, none⟩) hzc).trans cf0
        replace c1 := (hb7.cell (p := ⟨w2.heap.size + 1, 1, none⟩) hzc).trans c1
        replace cf1 := (hb7.frozen (p := ⟨w2.heap.size + 1, 1, none⟩) hzc).trans cf1
        replace c2 := (hb7.cell (p := ⟨w2.heap.size + 1, 2, none⟩) hzc).trans c2
        replace cf2 := (hb7.frozen (p := ⟨w2.heap.size + 1, 2, none⟩) hzc).trans cf2
        replace hzc := Nat.lt_of_lt_of_le hzc hb7.size
        replace hbW := Lib.hid (hbW.out.trans (hb7.mono hbW.out.size))
        go_wp2_with (first | (go_at_call 11; refine (weekday_any _ _).mono ?_; rintro e w' ⟨rfl, rfl⟩) | (go_at_call 18; refine (weekdayOf_any _ _).mono ?_; rintro e w' ⟨rfl, rfl⟩))
        go_ret
        exact ⟨ret_bool (by simp), hbW.out⟩
      · have hr'' : ¬ n < -719162 := by omega
        go_wp2_with (go_step)
        refine (lastDay_any _).mono ?_
        rintro e w5 ⟨rfl, hb5⟩
        replace a0 := (hb5.cell (p := ⟨w.heap.size, 0, none⟩) hza).trans a0
        replace af0 := (hb5.frozen (p := ⟨w.heap.size, 0, none⟩) hza).trans af0
        replace a1 := (hb5.cell (p := ⟨w.heap.size, 1, none⟩) hza).trans a1
        replace af1 := (hb5.frozen (p := ⟨w.heap.size, 1, none⟩) hza).trans af1
        replace a2 := (hb5.cell (p := ⟨w.heap.size, 2, none⟩) hza).trans a2
        replace af2 := (hb5.frozen (p := ⟨w.heap.size, 2, none⟩) hza).trans af2
        replace hza := Nat.lt_of_lt_of_le hza hb5.size
        replace b0 := (hb5.cell (p := ⟨w2.heap.size, 0, none⟩) hzb).trans b0
        replace bf0 := (hb5.frozen (p := ⟨w2.heap.size, 0, none⟩) hzb).trans bf0
        replace b1 := (hb5.cell (p := ⟨w2.heap.size, 1, none⟩) hzb).trans b1
        replace bf1 := (hb5.frozen (p := ⟨w2.heap.size, 1, none⟩) hzb).trans bf1
        replace b2 := (hb5.cell (p := ⟨w2.heap.size, 2, none⟩) hzb).trans b2
        replace bf2 := (hb5.frozen (p := ⟨w2.heap.size, 2, none⟩) hzb).trans bf2
        replace hzb := Nat.lt_of_lt_of_le hzb hb5.size
        replace c0 := (hb5.cell (p := ⟨w2.heap.size + 1, 0, none⟩) hzc).trans c0
        replace cf0 := (hb5.frozen (p := ⟨w2.heap.size + 1, 0, none⟩) hzc).trans cf0
        replace c1 := (hb5.cell (p := ⟨w2.heap.size + 1, 1, none⟩) hzc).trans c1
        replace cf1 := (hb5.frozen (p := ⟨w2.heap.size + 1, 1, none⟩) hzc).trans cf1
        replace c2 := (hb5.cell (p := ⟨w2.heap.size + 1, 2, none⟩) hzc).trans c2
        replace cf2 := (hb5.frozen (p := ⟨w2.heap.size + 1, 2, none⟩) hzc).trans cf2
        replace hzc := Nat.lt_of_lt_of_le hzc hb5.size
        replace hbW := Lib.hid (hbW.out.trans (hb5.mono hbW.out.size))
        go_wp2_with (go_step)
        refine (civilBegun_any _).mono ?_
        rintro e w7 ⟨rfl, hb7⟩
        replace a0 := (hb7.cell (p := ⟨w.heap.size, 0, none⟩) hza).trans a0
        replace af0 := (hb7.frozen (p := ⟨w.heap.size, 0, none⟩) hza).trans af0
        replace a1 := (hb7.cell (p := ⟨w.heap.size, 1, none⟩) hza).trans a1
        replace af1 := (hb7.frozen (p := ⟨w.heap.size, 1, none⟩) hza).trans af1
        replace a2 := (hb7.cell (p := ⟨w.heap.size, 2, none⟩) hza).trans a2
        replace af2 := (hb7.frozen (p := ⟨w.heap.size, 2, none⟩) hza).trans af2
        replace hza := Nat.lt_of_lt_of_le hza hb7.size
        replace b0 := (hb7.cell (p := ⟨w2.heap.size, 0, none⟩) hzb).trans b0
        replace bf0 := (hb7.frozen (p := ⟨w2.heap.size, 0, none⟩) hzb).trans bf0
        replace b1 := (hb7.cell (p := ⟨w2.heap.size, 1, none⟩) hzb).trans b1
        replace bf1 := (hb7.frozen (p := ⟨w2.heap.size, 1, none⟩) hzb).trans bf1
        replace b2 := (hb7.cell (p := ⟨w2.heap.size, 2, none⟩) hzb).trans b2
        replace bf2 := (hb7.frozen (p := ⟨w2.heap.size, 2, none⟩) hzb).trans bf2
        replace hzb := Nat.lt_of_lt_of_le hzb hb7.size
        replace c0 := (hb7.cell (p := ⟨w2.heap.size + 1, 0, none⟩) hzc).trans c0
        replace cf0 := (hb7.frozen (p := ⟨w2.heap.size + 1, 0, none⟩) hzc).trans cf0
        replace c1 := (hb7.cell (p := ⟨w2.heap.size + 1, 1, none⟩) hzc).trans c1
        replace cf1 := (hb7.frozen (p := ⟨w2.heap.size + 1, 1, none⟩) hzc).trans cf1
        replace c2 := (hb7.cell (p := ⟨w2.heap.size + 1, 2, none⟩) hzc).trans c2
        replace cf2 := (hb7.frozen (p := ⟨w2.heap.size + 1, 2, none⟩) hzc).trans cf2
        replace hzc := Nat.lt_of_lt_of_le hzc hb7.size
        replace hbW := Lib.hid (hbW.out.trans (hb7.mono hbW.out.size))
        go_wp2_with (first | (go_at_call 11; refine (weekday_any _ _).mono ?_; rintro e w' ⟨rfl, rfl⟩) | (go_at_call 18; refine (weekdayOf_any _ _).mono ?_; rintro e w' ⟨rfl, rfl⟩))
        go_ret
        exact ⟨ret_bool (by simp), hbW.out⟩

set_option maxRecDepth 100000 in
theorem lifted (os : Os) (started : os.Started) (H : Type) (enc : TypeId × Value → H) :
    ReturnsInHanded {} Try.checked os 5 .any (Rows.civilTellsSpec.pre6 enc Try.prog Try.f5 Rows.civilTellsRow.domain false) (Rows.civilTellsSpec.post enc Try.prog Try.f5 false true false false) := by
  refine returnsInHanded_of_change (C := Try.checked) own started (by kernel_rfl) Try.func5
    (ChangeSpec.witness6 (enc := enc) (C := Try.checked) false ⟨#[], #[.agg #[.int .i64 0, .int .i64 0, .int .i64 0], .int .i64 0], []⟩ 8 (by kernel_rfl) (by kernel_rfl) (by kernel_rfl) (by kernel_rfl)) ?_
  intro W base args ds gs before hval0 hW0 _ _
  have hval : ∀ (j : Nat) t v, Try.f5.params[j]? = some t → args[j]? = some v → Value.okWide Try.prog W .any base t v := hval0
  have hW := hW0
  obtain ⟨p, q, hA0, _, _, _, _⟩ := hW
  have hA : DataW.TrodAll enc Try.prog W 0 (fun _ => true) true Try.f5.params.toList args.toList ds p := hA0
  have hfin : ∀ W', Below W.heap.size W W' → (∃ d, ds = d) → Rows.civilTellsSpec.fn H ds = { results := [.lit (.bool true)], args := ds } → Rows.civilTellsSpec.post enc Try.prog Try.f5 false true false false W args (.bool true) W' :=
    fun W' hb _ hs => law_post laidOut (by kernel_rfl) rfl Try.underlying4 rfl hs hW0 hb
  rw [Try.params5] at hA hval
  obtain ⟨v0, vs0, d0, ds0, p0, q0, hargs, rfl, rfl, h0, r0⟩ := trodAll_cons hA
  obtain ⟨v1, vs1, d1, ds1, p1, q1, rfl, rfl, rfl, h1, r1⟩ := trodAll_cons r0
  obtain ⟨rfl, rfl, rfl⟩ := trodAll_nil r1
  obtain rfl : args = #[v0, v1] := by cases args; simp_all
  obtain ⟨y, m, d, rfl, hy, hm, hd⟩ := open_date (hval 0 23 _ rfl rfl) h0
  obtain ⟨n, rfl, hn⟩ := open_int1 (hval 1 3 _ rfl rfl) h1
  refine (walk y m d n W).mono fun e W' ⟨he, hb⟩ => ?_
  subst he
  exact ⟨_, rfl, hfin W' hb ⟨_, rfl⟩ rfl⟩

theorem proved : Rows.CivilTellsSaid :=
  OpenClaim.holds_of_wide 5 Try.f5 rfl rfl rfl rfl rfl rfl rfl ⟨rfl, rfl, rfl, rfl, rfl⟩ rfl rfl rfl rfl rfl (by kernel_rfl) Try.func5 (by kernel_rfl)
    (of_decide_eq_true (by kernel_rfl)) (by unfold Func.isWrapper; first | (rw [if_pos (by decide +kernel)]; kernel_rfl) | (rw [if_neg (by decide +kernel)]; exact ⟨rfl, rfl⟩))
    (fun os started H enc _ => lifted os started H enc)

end Go.Proofs.Ytbbhpjnifeheiaa.civilTells
