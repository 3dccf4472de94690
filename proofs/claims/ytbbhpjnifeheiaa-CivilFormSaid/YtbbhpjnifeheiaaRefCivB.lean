/-
  Contracts of the reference's DateOf and OnOf. Conditions: those that each theorem names.
-/
import Derived.Test.YtbbhpjnifeheiaaRefCiv
import Derived.Deep.LoopGhost
set_option linter.unusedVariables false
set_option linter.unusedSimpArgs false
namespace Go.Proofs.Ytbbhpjnifeheiaa
open Go.RowKit Go.Sort Civ

theorem cset_o {w : World} {a b : Addr} {v x : Value} (h : w.cell? b = some x) (hn : a ≠ b) : (w.setCell a v).cell? b = some x := (World.cell?_setCell_other _ _ _ _ hn).trans h
theorem cset_s {w : World} {a : Addr} {v x : Value} (h : w.cell? a = some x) : (w.setCell a v).cell? a = some v := World.cell?_setCell_same _ _ _ h
theorem fset {w : World} {a b : Addr} {v : Value} (h : w.frozen? b = false) : (w.setCell a v).frozen? b = false := (World.frozen?_setCell _ _ _ _).trans h

theorem num_11 (y : Int) : num y 1 1 = bef y - 719162 := by unfold num; rw [cum_1]; omega

set_option maxHeartbeats 1000000 in
theorem refDateOf_any (n : Int) (w : World) (h0 : -719162 ≤ n) (h1 : n ≤ 2932896) :
    Calls Try.prog 17 #[.int .i64 n] w fun e w' => e = .returned (dv (dateOf n)) ∧ Below w.heap.size w w' := by
  go_enter Try.func17, Try.ntmps17
  go_wp2_with (go_step)
  generalize hW : w.alloc (.cells #[.int .i64 0, .int .i64 0, .int .i64 0] 23) = W
  have c0 : W.cell? ⟨w.heap.size, 0, none⟩ = some (.int .i64 0) := by subst hW; simp
  have c1 : W.cell? ⟨w.heap.size, 1, none⟩ = some (.int .i64 0) := by subst hW; simp
  have c2 : W.cell? ⟨w.heap.size, 2, none⟩ = some (.int .i64 0) := by subst hW; simp
  have g0 : W.frozen? ⟨w.heap.size, 0, none⟩ = false := by subst hW; simp
  have g1 : W.frozen? ⟨w.heap.size, 1, none⟩ = false := by subst hW; simp
  have g2 : W.frozen? ⟨w.heap.size, 2, none⟩ = false := by subst hW; simp
  have hbW : Hid (Below w.heap.size w W) := Lib.hid (by subst hW; exact (Below.refl _ _).alloc (Nat.le_refl _) _)
  have hzW : w.heap.size < W.heap.size := by subst hW; simp
  clear hW
  go_loopw [3, 4] (fun a b wr => ∃ y z : Int, 1 ≤ y ∧ y < z ∧ z ≤ 10000 ∧ num y 1 1 ≤ n ∧ n < num z 1 1 ∧ a = .int .i64 y ∧ b = .int .i64 z ∧ Below W.heap.size W wr) (fun a b _ => (intOf b - intOf a).toNat)
  case atStart => exact ⟨1, 10000, by omega, by omega, by omega, by rw [num_11, bef_1]; omega, by rw [num_11, bef_10000]; omega, rfl, rfl, Below.refl _ _⟩
  case round =>
    rename_i wr
    obtain ⟨y, z, hy, hyz, hz, hn1, hn2, rfl, rfl, hb⟩ := hrel
    by_cases hlt : 1 < z - y
    · by_cases hc : num ((y + z) / 2) 1 1 ≤ n
      all_goals
        go_wp2_with fail
        refine (daysOf_any _ _ _ _ (by omega) (by omega) (by omega) (by omega) (by omega) (by omega)).mono ?_
        rintro e w1 ⟨rfl, hb1⟩
        go_wp2_with fail
        go_roundw
        case rel => first | exact ⟨(y + z) / 2, z, by omega, by omega, by omega, hc, hn2, rfl, rfl, hb.trans (hb1.mono hb.size)⟩ | exact ⟨y, (y + z) / 2, by omega, by omega, by omega, hn1, by omega, rfl, rfl, hb.trans (hb1.mono hb.size)⟩
        case measure => simp [intOf]; omega
    · obtain rfl : z = y + 1 := by omega
      have hup : Hid (num y 12 1 + mlen y 12 = num (y + 1) 1 1) := Lib.hid (by rw [num_11, bef_succ]; unfold num cum mlen; simp; omega)
      go_wp2_with (go_step)
      generalize hX : wr.alloc (.cells #[.int .i64 y, .int .i64 12, .int .i64 1] 23) = X
      have x0 : X.cell? ⟨wr.heap.size, 0, none⟩ = some (.int .i64 y) := by subst hX; simp
      have x1 : X.cell? ⟨wr.heap.size, 1, none⟩ = some (.int .i64 12) := by subst hX; simp
      have x2 : X.cell? ⟨wr.heap.size, 2, none⟩ = some (.int .i64 1) := by subst hX; simp
      have z0 : X.frozen? ⟨wr.heap.size, 0, none⟩ = false := by subst hX; simp
      have z1 : X.frozen? ⟨wr.heap.size, 1, none⟩ = false := by subst hX; simp
      have z2 : X.frozen? ⟨wr.heap.size, 2, none⟩ = false := by subst hX; simp
      have hbX : Hid (Below wr.heap.size wr X) := Lib.hid (by subst hX; exact (Below.refl _ _).alloc (Nat.le_refl _) _)
      have hzX : wr.heap.size < X.heap.size := by subst hX; simp
      clear hX
      generalize hB : wr.heap.size = B at *
      have hWB : Hid (W.heap.size ≤ B) := Lib.hid (by rw [← hB]; exact hb.size)
      clear hB
      have hbX2 : Hid (Below W.heap.size W X) := Lib.hid (hb.trans (hbX.out.mono hWB.out))
      clear hbX hb
      go_loopg [] 12 (fun k wx => ∃ m : Int, 1 ≤ m ∧ m ≤ 12 ∧ k = m.toNat ∧ n < num y m 1 + mlen y m ∧ wx.cell? ⟨B, 0, none⟩ = some (.int .i64 y) ∧ wx.cell? ⟨B, 1, none⟩ = some (.int .i64 m) ∧ wx.cell? ⟨B, 2, none⟩ = some (.int .i64 1) ∧ wx.frozen? ⟨B, 0, none⟩ = false ∧ wx.frozen? ⟨B, 1, none⟩ = false ∧ wx.frozen? ⟨B, 2, none⟩ = false ∧ B < wx.heap.size ∧ Below W.heap.size W wx)
      case atStart => exact ⟨12, by omega, by omega, rfl, by rw [hup.out]; exact hn2, x0, x1, x2, z0, z1, z2, hzX, hbX2.out⟩
      case round =>
        clear x0 x1 x2 z0 z1 z2 hzX hbX2
        rename_i wx
        obtain ⟨m, hm0, hm1, hgk, hn3, x0, x1, x2, z0, z1, z2, hzx, hbx⟩ := hrel
        by_cases hc : n < num y m 1
        · have hm2 : 2 ≤ m := by
            rcases Int.lt_or_le m 2 with c | c
            · obtain rfl : m = 1 := by omega
              omega
            · exact c
          have hst : Hid (num y (m - 1) 1 + mlen y (m - 1) = num y m 1) := Lib.hid (by have := cum_succ (y := y) (m := m - 1) (by omega) (by omega); rw [show m - 1 + 1 = m by omega] at this; unfold num; omega)
          have HK := Lib.hid hgk; clear hgk
          go_wp2_with fail
          refine (daysOf_any _ _ _ _ (by omega) (by omega) (by omega) (by omega) (by omega) (by omega)).mono ?_
          rintro e w1 ⟨rfl, hb1⟩
          have hzs := hb1.size
          replace x0 := (hb1.cell (p := ⟨B, 0, none⟩) (by simp; omega)).trans x0
          replace x1 := (hb1.cell (p := ⟨B, 1, none⟩) (by simp; omega)).trans x1
          replace x2 := (hb1.cell (p := ⟨B, 2, none⟩) (by simp; omega)).trans x2
          replace z0 := (hb1.frozen (p := ⟨B, 0, none⟩) (by simp; omega)).trans z0
          replace z1 := (hb1.frozen (p := ⟨B, 1, none⟩) (by simp; omega)).trans z1
          replace z2 := (hb1.frozen (p := ⟨B, 2, none⟩) (by simp; omega)).trans z2
          replace hzx := Nat.lt_of_lt_of_le hzx hb1.size
          go_wp2_with fail
          go_roundg (m - 1).toNat
          case measure => have := HK.out; omega
          case rel => exact ⟨m - 1, by omega, by omega, rfl, by rw [hst.out]; exact hc, cset_o x0 (by simp), cset_s x1, cset_o x2 (by simp), fset z0, fset z1, fset z2, by simpa using hzx, ((hbx.trans (hb1.mono hbx.size)).setCell hWB.out _)⟩
        · have hd : isDate y m (n - num y m 1 + 1) = true := by
            have h1 := num_bd (isDate_iff.2 ⟨hy, by omega, hm0, hm1, by omega, by have := mlen_bd y m; omega⟩ : isDate y m 1 = true)
            rw [isDate_iff]; omega
          have hdn : num y m (n - num y m 1 + 1) = n := by unfold num; omega
          have HD := Lib.hid (dateOf_eq hd hdn); clear hd hdn
          have hnb : -8000000 ≤ num y m 1 ∧ num y m 1 ≤ 8000000 := by
            have := bef_bd (y := y) (by omega) (by omega); have := cum_bd (y := y) (m := m) hm0 (by omega); unfold num; omega
          have HK := Lib.hid hgk; clear hgk
          have hW0 := Lib.hid hzW
          go_wp2_with fail
          refine (daysOf_any _ _ _ _ (by omega) (by omega) (by omega) (by omega) (by omega) (by omega)).mono ?_
          rintro e w1 ⟨rfl, hb1⟩
          replace hbx := hbx.trans (hb1.mono hbx.size)
          replace x0 := (hb1.cell (p := ⟨B, 0, none⟩) (by simp; omega)).trans x0
          replace x1 := (hb1.cell (p := ⟨B, 1, none⟩) (by simp; omega)).trans x1
          replace x2 := (hb1.cell (p := ⟨B, 2, none⟩) (by simp; omega)).trans x2
          replace z0 := (hb1.frozen (p := ⟨B, 0, none⟩) (by simp; omega)).trans z0
          replace z1 := (hb1.frozen (p := ⟨B, 1, none⟩) (by simp; omega)).trans z1
          replace z2 := (hb1.frozen (p := ⟨B, 2, none⟩) (by simp; omega)).trans z2
          replace hzx := Nat.lt_of_lt_of_le hzx hb1.size
          go_wp2_with fail
          refine (daysOf_any _ _ _ _ (by omega) (by omega) (by omega) (by omega) (by omega) (by omega)).mono ?_
          rintro e w2 ⟨rfl, hb2⟩
          replace hbx := hbx.trans (hb2.mono hbx.size)
          replace x0 := (hb2.cell (p := ⟨B, 0, none⟩) (by simp; omega)).trans x0
          replace x1 := (hb2.cell (p := ⟨B, 1, none⟩) (by simp; omega)).trans x1
          replace x2 := (hb2.cell (p := ⟨B, 2, none⟩) (by simp; omega)).trans x2
          replace z0 := (hb2.frozen (p := ⟨B, 0, none⟩) (by simp; omega)).trans z0
          replace z1 := (hb2.frozen (p := ⟨B, 1, none⟩) (by simp; omega)).trans z1
          replace z2 := (hb2.frozen (p := ⟨B, 2, none⟩) (by simp; omega)).trans z2
          replace hzx := Nat.lt_of_lt_of_le hzx hb2.size
          have d0 := (hbx.cell (p := ⟨w.heap.size, 0, none⟩) (by first | assumption | simp | omega)).trans c0
          have d1 := (hbx.cell (p := ⟨w.heap.size, 1, none⟩) (by first | assumption | simp | omega)).trans c1
          have d2 := (hbx.cell (p := ⟨w.heap.size, 2, none⟩) (by first | assumption | simp | omega)).trans c2
          have k0 := (hbx.frozen (p := ⟨w.heap.size, 0, none⟩) (by first | assumption | simp | omega)).trans g0
          have k1 := (hbx.frozen (p := ⟨w.heap.size, 1, none⟩) (by first | assumption | simp | omega)).trans g1
          have k2 := (hbx.frozen (p := ⟨w.heap.size, 2, none⟩) (by first | assumption | simp | omega)).trans g2
          have w2z := Nat.lt_of_lt_of_le (show w.heap.size < W.heap.size by first | assumption | omega) hbx.size
          have hne : w.heap.size ≠ B := by have := hWB.out; omega
          have hne2 : ¬ B = w.heap.size := fun e => hne e.symm
          go_wp2_with fail
          refine bodyPost_ret (v := .agg #[.int .i64 y, .int .i64 m, .int .i64 (n - num y m 1 + 1)]) (by simp [results, Try.results17, go_sem, d0, d1, d2]) rfl ⟨by rw [HD.out]; rfl, ?_⟩
          exact (((((hbW.out.trans (hbx.mono hbW.out.size)).setCell (p := ⟨B, 2, none⟩) (by have := hWB.out; simp; omega) _).setCell (by simp) _).setCell (by simp) _).setCell (by simp) _)

end Go.Proofs.Ytbbhpjnifeheiaa
