/-
  CivilOn answers true, whatever year, month and form it is handed, and leaves them as they were. No condition.
-/
import Derived.Test.YtbbhpjnifeheiaaLawCivA
import Derived.Test.YtbbhpjnifeheiaaOpenCiv
set_option linter.unusedVariables false
set_option linter.unusedSimpArgs false
namespace Go.Proofs.Ytbbhpjnifeheiaa.civilOn
open Go.ChangeShapes Go.WideShapes Go.ChangeAt Go.RowKit Go.Sort Civ

set_option maxHeartbeats 1000000 in
theorem walk (y m kind wk n : Int) (w : World) :
    Calls Try.prog 6 #[.int .i64 y, .int .i64 m, .agg #[.int .i64 kind, .int .i64 wk, .int .i64 n]] w fun e w' => e = .returned (.bool true) ∧ Below w.heap.size w w' := by
  obtain ⟨y', m', d', k, hp⟩ : ∃ y' m' d' k, onV y m kind wk n = ((y', m', d'), k) := ⟨_, _, _, _, rfl⟩
  have HP := Lib.hid hp; clear hp
  go_enter Try.func6, Try.ntmps6
  go_wp2_with (go_step)
  generalize hW_ : w.alloc (.cells #[.int .i64 kind, .int .i64 wk, .int .i64 n] 38) = W
  have c0 : W.cell? ⟨w.heap.size, 0, none⟩ = some (.int .i64 kind) := by subst hW_; simp
  have cf0 : W.frozen? ⟨w.heap.size, 0, none⟩ = false := by subst hW_; simp
  have c1 : W.cell? ⟨w.heap.size, 1, none⟩ = some (.int .i64 wk) := by subst hW_; simp
  have cf1 : W.frozen? ⟨w.heap.size, 1, none⟩ = false := by subst hW_; simp
  have c2 : W.cell? ⟨w.heap.size, 2, none⟩ = some (.int .i64 n) := by subst hW_; simp
  have cf2 : W.frozen? ⟨w.heap.size, 2, none⟩ = false := by subst hW_; simp
  have hbW : Hid (Below w.heap.size w W) := Lib.hid (by subst hW_; exact ((Below.refl _ _).alloc (by simp) _))
  have hz : w.heap.size < W.heap.size := by subst hW_; simp
  clear hW_
  refine (on_any _ _ _ _ _ _).mono ?_
  rintro e w1 ⟨rfl, hb1⟩
  rw [HP.out]; dsimp only [dv]
  replace c0 := (hb1.cell (p := ⟨w.heap.size, 0, none⟩) (by simp; omega)).trans c0
  replace cf0 := (hb1.frozen (p := ⟨w.heap.size, 0, none⟩) (by simp; omega)).trans cf0
  replace c1 := (hb1.cell (p := ⟨w.heap.size, 1, none⟩) (by simp; omega)).trans c1
  replace cf1 := (hb1.frozen (p := ⟨w.heap.size, 1, none⟩) (by simp; omega)).trans cf1
  replace c2 := (hb1.cell (p := ⟨w.heap.size, 2, none⟩) (by simp; omega)).trans c2
  replace cf2 := (hb1.frozen (p := ⟨w.heap.size, 2, none⟩) (by simp; omega)).trans cf2
  replace hbW := Lib.hid (hbW.out.trans (hb1.mono (by omega)))
  replace hz := Nat.lt_of_lt_of_le hz hb1.size
  go_wp2_with (go_step)
  have hbW1 := hbW; have hz1 := hz; clear hbW hz
  generalize hW_ : w1.alloc (.cells #[.int .i64 y', .int .i64 m', .int .i64 d'] 23) = V
  have a0 : V.cell? ⟨w1.heap.size, 0, none⟩ = some (.int .i64 y') := by subst hW_; simp
  have af0 : V.frozen? ⟨w1.heap.size, 0, none⟩ = false := by subst hW_; simp
  have a1 : V.cell? ⟨w1.heap.size, 1, none⟩ = some (.int .i64 m') := by subst hW_; simp
  have af1 : V.frozen? ⟨w1.heap.size, 1, none⟩ = false := by subst hW_; simp
  have a2 : V.cell? ⟨w1.heap.size, 2, none⟩ = some (.int .i64 d') := by subst hW_; simp
  have af2 : V.frozen? ⟨w1.heap.size, 2, none⟩ = false := by subst hW_; simp
  have hbW : Hid (Below w1.heap.size w1 V) := Lib.hid (by subst hW_; exact ((Below.refl _ _).alloc (by simp) _))
  have hz : w1.heap.size < V.heap.size := by subst hW_; simp
  clear hW_
  refine (refOn_any _ _ _ _ _ _).mono ?_
  rintro e w2 ⟨rfl, hb2⟩
  rw [HP.out]; dsimp only [dv]
  replace a0 := (hb2.cell (p := ⟨w1.heap.size, 0, none⟩) (by simp; omega)).trans a0
  replace af0 := (hb2.frozen (p := ⟨w1.heap.size, 0, none⟩) (by simp; omega)).trans af0
  replace a1 := (hb2.cell (p := ⟨w1.heap.size, 1, none⟩) (by simp; omega)).trans a1
  replace af1 := (hb2.frozen (p := ⟨w1.heap.size, 1, none⟩) (by simp; omega)).trans af1
  replace a2 := (hb2.cell (p := ⟨w1.heap.size, 2, none⟩) (by simp; omega)).trans a2
  replace af2 := (hb2.frozen (p := ⟨w1.heap.size, 2, none⟩) (by simp; omega)).trans af2
  replace hbW := Lib.hid (hbW.out.trans (hb2.mono (by omega)))
  replace hz := Nat.lt_of_lt_of_le hz hb2.size
  go_wp2_with (go_step)
  have hbW2 := hbW; have hz2 := hz; clear hbW hz
  generalize hW_ : w2.alloc (.cells #[.int .i64 y', .int .i64 m', .int .i64 d'] 23) = V'
  have b0 : V'.cell? ⟨w2.heap.size, 0, none⟩ = some (.int .i64 y') := by subst hW_; simp
  have bf0 : V'.frozen? ⟨w2.heap.size, 0, none⟩ = false := by subst hW_; simp
  have b1 : V'.cell? ⟨w2.heap.size, 1, none⟩ = some (.int .i64 m') := by subst hW_; simp
  have bf1 : V'.frozen? ⟨w2.heap.size, 1, none⟩ = false := by subst hW_; simp
  have b2 : V'.cell? ⟨w2.heap.size, 2, none⟩ = some (.int .i64 d') := by subst hW_; simp
  have bf2 : V'.frozen? ⟨w2.heap.size, 2, none⟩ = false := by subst hW_; simp
  have hbW : Hid (Below w2.heap.size w2 V') := Lib.hid (by subst hW_; exact ((Below.refl _ _).alloc (by simp) _))
  have hz : w2.heap.size < V'.heap.size := by subst hW_; simp
  clear hW_
  replace a0 := ((hbW.out).cell (p := ⟨w1.heap.size, 0, none⟩) hz2).trans a0
  replace a1 := ((hbW.out).cell (p := ⟨w1.heap.size, 1, none⟩) hz2).trans a1
  replace a2 := ((hbW.out).cell (p := ⟨w1.heap.size, 2, none⟩) hz2).trans a2
  have hz3 : w1.heap.size < V'.heap.size := Nat.lt_of_lt_of_le hz2 hbW.out.size
  refine (civilBegun_any _).mono ?_
  rintro e w3 ⟨rfl, hb3⟩
  replace a0 := (hb3.cell (p := ⟨w1.heap.size, 0, none⟩) hz3).trans a0
  replace a1 := (hb3.cell (p := ⟨w1.heap.size, 1, none⟩) hz3).trans a1
  replace a2 := (hb3.cell (p := ⟨w1.heap.size, 2, none⟩) hz3).trans a2
  replace b0 := (hb3.cell (p := ⟨w2.heap.size, 0, none⟩) (by simp; omega)).trans b0
  replace bf0 := (hb3.frozen (p := ⟨w2.heap.size, 0, none⟩) (by simp; omega)).trans bf0
  replace b1 := (hb3.cell (p := ⟨w2.heap.size, 1, none⟩) (by simp; omega)).trans b1
  replace bf1 := (hb3.frozen (p := ⟨w2.heap.size, 1, none⟩) (by simp; omega)).trans bf1
  replace b2 := (hb3.cell (p := ⟨w2.heap.size, 2, none⟩) (by simp; omega)).trans b2
  replace bf2 := (hb3.frozen (p := ⟨w2.heap.size, 2, none⟩) (by simp; omega)).trans bf2
  replace hbW := Lib.hid (hbW.out.trans (hb3.mono (by omega)))
  replace hz := Nat.lt_of_lt_of_le hz hb3.size
  go_wp2_with fail
  go_ret
  exact ⟨ret_bool (by simp), (hbW1.out.trans (hbW2.out.mono hbW1.out.size)).trans (hbW.out.mono (Nat.le_trans hbW1.out.size hbW2.out.size))⟩

set_option maxRecDepth 100000 in
theorem lifted (os : Os) (started : os.Started) (H : Type) (enc : TypeId × Value → H) :
    ReturnsInHanded {} Try.checked os 6 .any (Rows.civilOnSpec.pre6 enc Try.prog Try.f6 Rows.civilOnRow.domain false) (Rows.civilOnSpec.post enc Try.prog Try.f6 false true false false) := by
  refine returnsInHanded_of_change (C := Try.checked) own started (by kernel_rfl) Try.func6
    (ChangeSpec.witness6 (enc := enc) (C := Try.checked) false ⟨#[], #[.int .i64 0, .int .i64 0, .agg #[.int .i64 0, .int .i64 0, .int .i64 0]], []⟩ 8 (by kernel_rfl) (by kernel_rfl) (by kernel_rfl) (by kernel_rfl)) ?_
  intro W base args ds gs before hval0 hW0 _ _
  have hval : ∀ (j : Nat) t v, Try.f6.params[j]? = some t → args[j]? = some v → Value.okWide Try.prog W .any base t v := hval0
  have hW := hW0
  obtain ⟨p, q, hA0, _, _, _, _⟩ := hW
  have hA : DataW.TrodAll enc Try.prog W 0 (fun _ => true) true Try.f6.params.toList args.toList ds p := hA0
  have hfin : ∀ W', Below W.heap.size W W' → (∃ d, ds = d) → Rows.civilOnSpec.fn H ds = { results := [.lit (.bool true)], args := ds } → Rows.civilOnSpec.post enc Try.prog Try.f6 false true false false W args (.bool true) W' :=
    fun W' hb _ hs => law_post laidOut (by kernel_rfl) rfl Try.underlying4 rfl hs hW0 hb
  rw [Try.params6] at hA hval
  obtain ⟨v0, vs0, d0, ds0, p0, q0, hargs, rfl, rfl, h0, r0⟩ := trodAll_cons hA
  obtain ⟨v1, vs1, d1, ds1, p1, q1, rfl, rfl, rfl, h1, r1⟩ := trodAll_cons r0
  obtain ⟨v2, vs2, d2, ds2, p2, q2, rfl, rfl, rfl, h2, r2⟩ := trodAll_cons r1
  obtain ⟨rfl, rfl, rfl⟩ := trodAll_nil r2
  obtain rfl : args = #[v0, v1, v2] := by cases args; simp_all
  obtain ⟨y, rfl, hy⟩ := open_int1 (hval 0 3 _ rfl rfl) h0
  obtain ⟨m, rfl, hm⟩ := open_int1 (hval 1 3 _ rfl rfl) h1
  obtain ⟨k, wk, n, rfl, hk, hwk, hn⟩ := open_form (hval 2 38 _ rfl rfl) h2
  refine (walk y m k wk n W).mono fun e W' ⟨he, hb⟩ => ?_
  subst he
  exact ⟨_, rfl, hfin W' hb ⟨_, rfl⟩ rfl⟩

theorem proved : Rows.CivilOnSaid :=
  OpenClaim.holds_of_wide 6 Try.f6 rfl rfl rfl rfl rfl rfl rfl ⟨rfl, rfl, rfl, rfl, rfl⟩ rfl rfl rfl rfl rfl (by kernel_rfl) Try.func6 (by kernel_rfl)
    (of_decide_eq_true (by kernel_rfl)) (by unfold Func.isWrapper; first | (rw [if_pos (by decide +kernel)]; kernel_rfl) | (rw [if_neg (by decide +kernel)]; exact ⟨rfl, rfl⟩))
    (fun os started H enc _ => lifted os started H enc)

end Go.Proofs.Ytbbhpjnifeheiaa.civilOn
