/-
  Arguments that are dates, forms and numbers, opened. No condition.
-/
import Derived.Test.YtbbhpjnifeheiaaFrame
set_option linter.unusedVariables false
namespace Go.Proofs.Ytbbhpjnifeheiaa
open Go.ChangeShapes Go.WideShapes Go.ChangeAt Go.RowKit Go.Joins

def i64r (n : Int) : Prop := -9223372036854775808 ≤ n ∧ n ≤ 9223372036854775807
theorem i64r_of {n : Int} (h : (Lit.int .i64 n).wf = true) : i64r n := by
  simpa [Lit.wf, IntKind.min, IntKind.max, IntKind.signed, IntKind.bits, i64r] using h

theorem open_int1 {H : Type} {enc : TypeId × Value → H} {W : World} {r : Reach} {base : Nat} {sp : Nat → Bool} {hd : Bool} {v : Value} {d : DataW H} {p : List MemPlace}
    (hv : Value.okWide Try.prog W r base 3 v) (h : DataW.Trod enc Try.prog W 0 sp hd 3 v d p) : ∃ n : Int, v = .int .i64 n ∧ i64r n := by
  obtain ⟨n, rfl, rfl, rfl, wn⟩ := open_int Try.underlying3 hv h
  exact ⟨n, rfl, i64r_of wn⟩

theorem cellsDate : Try.prog.cellsOf 23 = 3 := by kernel_rfl
theorem open_date {H : Type} {enc : TypeId × Value → H} {W : World} {r : Reach} {base : Nat} {sp : Nat → Bool} {hd : Bool} {v : Value} {d : DataW H} {p : List MemPlace}
    (hv : Value.okWide Try.prog W r base 23 v) (h : DataW.Trod enc Try.prog W 0 sp hd 23 v d p) : ∃ y m d : Int, v = .agg #[.int .i64 y, .int .i64 m, .int .i64 d] ∧ i64r y ∧ i64r m ∧ i64r d := by
  obtain ⟨c0, c1, c2, y0, y1, y2, k, rfl, rfl, rfl, hy0, hy1, hy2⟩ := open_agg3 Try.underlying23 (by kernel_rfl) cellsDate hv h
  obtain ⟨a, e0, rfl, wa⟩ := DataW.trod_int Try.underlying3 hy0
  obtain ⟨b, e1, rfl, wb⟩ := DataW.trod_int Try.underlying3 hy1
  obtain ⟨c, e2, rfl, wc⟩ := DataW.trod_int Try.underlying3 hy2
  simp only [List.cons.injEq, and_true] at e0 e1 e2
  subst e0 e1 e2
  exact ⟨a, b, c, rfl, i64r_of wa, i64r_of wb, i64r_of wc⟩
theorem cellsForm : Try.prog.cellsOf 38 = 3 := by kernel_rfl
theorem open_form {H : Type} {enc : TypeId × Value → H} {W : World} {r : Reach} {base : Nat} {sp : Nat → Bool} {hd : Bool} {v : Value} {d : DataW H} {p : List MemPlace}
    (hv : Value.okWide Try.prog W r base 38 v) (h : DataW.Trod enc Try.prog W 0 sp hd 38 v d p) : ∃ y m d : Int, v = .agg #[.int .i64 y, .int .i64 m, .int .i64 d] ∧ i64r y ∧ i64r m ∧ i64r d := by
  obtain ⟨c0, c1, c2, y0, y1, y2, k, rfl, rfl, rfl, hy0, hy1, hy2⟩ := open_agg3 Try.underlying38 (by kernel_rfl) cellsForm hv h
  obtain ⟨a, e0, rfl, wa⟩ := DataW.trod_int Try.underlying3 hy0
  obtain ⟨b, e1, rfl, wb⟩ := DataW.trod_int Try.underlying3 hy1
  obtain ⟨c, e2, rfl, wc⟩ := DataW.trod_int Try.underlying3 hy2
  simp only [List.cons.injEq, and_true] at e0 e1 e2
  subst e0 e1 e2
  exact ⟨a, b, c, rfl, i64r_of wa, i64r_of wb, i64r_of wc⟩

end Go.Proofs.Ytbbhpjnifeheiaa
