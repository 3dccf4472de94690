/-
  CivilCycle answers true, whatever date it is handed, and leaves it as it was. No condition.
-/
import Derived.Test.YtbbhpjnifeheiaaLawCivA
import Derived.Test.YtbbhpjnifeheiaaOpenCiv
set_option linter.unusedVariables false
set_option linter.unusedSimpArgs false
namespace Go.Proofs.Ytbbhpjnifeheiaa.civilCycle
open Go.ChangeShapes Go.WideShapes Go.ChangeAt Go.RowKit Go.Sort Civ

theorem num_cycle (y m d : Int) : num (y + 400) m d = num y m d + 146097 := by
  have h : lp (y + 400) = lp y := by rw [lp_iff, lp_iff]; congr 1; simp; omega
  unfold num cum bef; rw [h]; split <;> omega
theorem wd_cycle (n : Int) : wd (n + 146097) = wd n := by unfold wd; omega

set_option maxHeartbeats 1000000 in
theorem walk (y m d : Int) (w : World) (hy : i64r y) :
    Calls Try.prog 3 #[.agg #[.int .i64 y, .int .i64 m, .int .i64 d]] w fun e w' => e = .returned (.bool true) ∧ Below w.heap.size w w' := by
  cases h1 : isDate y m d
  · have h1' := Lib.hid h1; clear h1
    cases h2 : isDate (wrap64 (y + 400)) m d
    all_goals
      have h2' := Lib.hid h2; clear h2
      go_enter Try.func3, Try.ntmps3
      go_wp2_with (go_step)
      generalize hW : w.alloc (.cells #[.int .i64 y, .int .i64 m, .int .i64 d] 23) = W
      have c0 : W.cell? ⟨w.heap.size, 0, none⟩ = some (.int .i64 y) := by subst hW; simp
      have c1 : W.cell? ⟨w.heap.size, 1, none⟩ = some (.int .i64 m) := by subst hW; simp
      have c2 : W.cell? ⟨w.heap.size, 2, none⟩ = some (.int .i64 d) := by subst hW; simp
      have g0 : W.frozen? ⟨w.heap.size, 0, none⟩ = false := by subst hW; simp
      have g1 : W.frozen? ⟨w.heap.size, 1, none⟩ = false := by subst hW; simp
      have g2 : W.frozen? ⟨w.heap.size, 2, none⟩ = false := by subst hW; simp
      have hbW : Hid (Below w.heap.size w W) := Lib.hid (by subst hW; exact (Below.refl _ _).alloc (Nat.le_refl _) _)
      have hzW : w.heap.size < W.heap.size := by subst hW; simp
      clear hW
      refine (days_no _ _ _ _ h1'.out).mono ?_
      rintro e w1 ⟨rfl, hb1⟩
      have d0 := (hb1.cell (p := ⟨w.heap.size, 0, none⟩) (by first | assumption | simp | omega)).trans c0
      have d1 := (hb1.cell (p := ⟨w.heap.size, 1, none⟩) (by first | assumption | simp | omega)).trans c1
      have d2 := (hb1.cell (p := ⟨w.heap.size, 2, none⟩) (by first | assumption | simp | omega)).trans c2
      have k0 := (hb1.frozen (p := ⟨w.heap.size, 0, none⟩) (by first | assumption | simp | omega)).trans g0
      have k1 := (hb1.frozen (p := ⟨w.heap.size, 1, none⟩) (by first | assumption | simp | omega)).trans g1
      have k2 := (hb1.frozen (p := ⟨w.heap.size, 2, none⟩) (by first | assumption | simp | omega)).trans g2
      have w1z := Nat.lt_of_lt_of_le (show w.heap.size < W.heap.size by first | assumption | omega) hb1.size
      go_wp2_with fail
      first | refine (days_no _ _ _ _ h2'.out).mono ?_ | refine (days_ok _ _ _ _ h2'.out).mono ?_
      rintro e w2 ⟨rfl, hb2⟩
      go_wp2_with fail
      refine (civilBegun_any _).mono ?_
      rintro e w3 ⟨rfl, hb3⟩
      go_wp2_with fail
      go_ret
      exact ⟨rfl, (((hbW.out.trans (hb1.mono hbW.out.size)).trans (hb2.mono (by have := hbW.out.size; have := hb1.size; omega))).trans (hb3.mono (by have := hbW.out.size; have := hb1.size; have := hb2.size; omega)))⟩
  · have hi := isDate_iff.1 h1
    have hnb := num_bd h1
    have h1' := Lib.hid h1; clear h1
    cases h2 : isDate (y + 400) m d
    all_goals
      have h2' := Lib.hid h2; clear h2
      have hn := Lib.hid (num_cycle y m d)
      have hwd := Lib.hid (wd_cycle (num y m d))
      go_enter Try.func3, Try.ntmps3
      go_wp2_with (go_step)
      generalize hW : w.alloc (.cells #[.int .i64 y, .int .i64 m, .int .i64 d] 23) = W
      have c0 : W.cell? ⟨w.heap.size, 0, none⟩ = some (.int .i64 y) := by subst hW; simp
      have c1 : W.cell? ⟨w.heap.size, 1, none⟩ = some (.int .i64 m) := by subst hW; simp
      have c2 : W.cell? ⟨w.heap.size, 2, none⟩ = some (.int .i64 d) := by subst hW; simp
      have g0 : W.frozen? ⟨w.heap.size, 0, none⟩ = false := by subst hW; simp
      have g1 : W.frozen? ⟨w.heap.size, 1, none⟩ = false := by subst hW; simp
      have g2 : W.frozen? ⟨w.heap.size, 2, none⟩ = false := by subst hW; simp
      have hbW : Hid (Below w.heap.size w W) := Lib.hid (by subst hW; exact (Below.refl _ _).alloc (Nat.le_refl _) _)
      have hzW : w.heap.size < W.heap.size := by subst hW; simp
      clear hW
      refine (days_ok _ _ _ _ h1'.out).mono ?_
      rintro e w1 ⟨rfl, hb1⟩
      have d0 := (hb1.cell (p := ⟨w.heap.size, 0, none⟩) (by first | assumption | simp | omega)).trans c0
      have d1 := (hb1.cell (p := ⟨w.heap.size, 1, none⟩) (by first | assumption | simp | omega)).trans c1
      have d2 := (hb1.cell (p := ⟨w.heap.size, 2, none⟩) (by first | assumption | simp | omega)).trans c2
      have k0 := (hb1.frozen (p := ⟨w.heap.size, 0, none⟩) (by first | assumption | simp | omega)).trans g0
      have k1 := (hb1.frozen (p := ⟨w.heap.size, 1, none⟩) (by first | assumption | simp | omega)).trans g1
      have k2 := (hb1.frozen (p := ⟨w.heap.size, 2, none⟩) (by first | assumption | simp | omega)).trans g2
      have w1z := Nat.lt_of_lt_of_le (show w.heap.size < W.heap.size by first | assumption | omega) hb1.size
      go_wp2_with fail
      first | refine (days_no _ _ _ _ h2'.out).mono ?_ | refine (days_ok _ _ _ _ h2'.out).mono ?_
      rintro e w2 ⟨rfl, hb2⟩
      try rw [hn.out]
      go_wp2_with fail
      refine (civilBegun_any _).mono ?_
      rintro e w3 ⟨rfl, hb3⟩
      go_wp2_with (go_at_call 11; refine (weekday_any _ _).mono ?_; rintro e w' ⟨rfl, rfl⟩; try rw [hwd.out])
      go_ret
      exact ⟨by simp, (((hbW.out.trans (hb1.mono hbW.out.size)).trans (hb2.mono (by have := hbW.out.size; have := hb1.size; omega))).trans (hb3.mono (by have := hbW.out.size; have := hb1.size; have := hb2.size; omega)))⟩

set_option maxRecDepth 100000 in
theorem lifted (os : Os) (started : os.Started) (H : Type) (enc : TypeId × Value → H) :
    ReturnsInHanded {} Try.checked os 3 .any (Rows.civilCycleSpec.pre6 enc Try.prog Try.f3 Rows.civilCycleRow.domain false) (Rows.civilCycleSpec.post enc Try.prog Try.f3 false true false false) := by
  refine returnsInHanded_of_change (C := Try.checked) own started (by kernel_rfl) Try.func3
    (ChangeSpec.witness6 (enc := enc) (C := Try.checked) false ⟨#[], #[.agg #[.int .i64 0, .int .i64 0, .int .i64 0]], []⟩ 8 (by kernel_rfl) (by kernel_rfl) (by kernel_rfl) (by kernel_rfl)) ?_
  intro W base args ds gs before hval0 hW0 _ _
  have hval : ∀ (j : Nat) t v, Try.f3.params[j]? = some t → args[j]? = some v → Value.okWide Try.prog W .any base t v := hval0
  have hW := hW0
  obtain ⟨p, q, hA0, _, _, _, _⟩ := hW
  have hA : DataW.TrodAll enc Try.prog W 0 (fun _ => true) true Try.f3.params.toList args.toList ds p := hA0
  have hfin : ∀ W', Below W.heap.size W W' → (∃ d, ds = d) → Rows.civilCycleSpec.fn H ds = { results := [.lit (.bool true)], args := ds } → Rows.civilCycleSpec.post enc Try.prog Try.f3 false true false false W args (.bool true) W' :=
    fun W' hb _ hs => law_post laidOut (by kernel_rfl) rfl Try.underlying4 rfl hs hW0 hb
  rw [Try.params3] at hA hval
  obtain ⟨v0, vs0, d0, ds0, p0, q0, hargs, rfl, rfl, h0, r0⟩ := trodAll_cons hA
  obtain ⟨rfl, rfl, rfl⟩ := trodAll_nil r0
  obtain rfl : args = #[v0] := by cases args; simp_all
  obtain ⟨y, m, d, rfl, hy, hm, hd⟩ := open_date (hval 0 23 _ rfl rfl) h0
  refine (walk y m d W hy).mono fun e W' ⟨he, hb⟩ => ?_
  subst he
  exact ⟨_, rfl, hfin W' hb ⟨_, rfl⟩ rfl⟩

theorem proved : Rows.CivilCycleSaid :=
  OpenClaim.holds_of_wide 3 Try.f3 rfl rfl rfl rfl rfl rfl rfl ⟨rfl, rfl, rfl, rfl, rfl⟩ rfl rfl rfl rfl rfl (by kernel_rfl) Try.func3 (by kernel_rfl)
    (of_decide_eq_true (by kernel_rfl)) (by unfold Func.isWrapper; first | (rw [if_pos (by decide +kernel)]; kernel_rfl) | (rw [if_neg (by decide +kernel)]; exact ⟨rfl, rfl⟩))
    (fun os started H enc _ => lifted os started H enc)

end Go.Proofs.Ytbbhpjnifeheiaa.civilCycle
