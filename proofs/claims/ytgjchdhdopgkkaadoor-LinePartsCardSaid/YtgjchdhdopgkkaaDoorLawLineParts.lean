/-
  LineParts answers true, whatever two texts it is handed. No condition.
-/
import Derived.Test.YtgjchdhdopgkkaaDoorLnLaw
import Derived.Test.YtgjchdhdopgkkaaDoorTied
set_option linter.unusedVariables false
set_option linter.unusedSimpArgs false
set_option maxRecDepth 100000
namespace Go.Proofs.YtgjchdhdopgkkaaDoor.lineParts
open Go.ChangeShapes Go.WideShapes Go.ChangeAt Go.RowKit Go.Ab
section
theorem LawLineParts_tk_3 {a0 a1 a2 : AV} {l : List AV} : (a0 :: a1 :: a2 :: l).take 3 = [a0, a1, a2] := rfl
theorem LawLineParts_sc0_3 {a0 a1 a2 c0 c1 c2 : AV} {l : List AV} : setCells (a0 :: a1 :: a2 :: l) 0 [c0, c1, c2] = c0 :: c1 :: c2 :: l := rfl
theorem LawLineParts_sc0_1 {a0 c0 : AV} {l : List AV} : setCells (a0 :: l) 0 [c0] = c0 :: l := rfl
theorem LawLineParts_tk0_3 {a0 a1 a2 : AV} {l : List AV} : ((a0 :: a1 :: a2 :: l).drop 0).take 3 = [a0, a1, a2] := rfl
theorem LawLineParts_LineParts_131 {τ : Operand → AV} {y0 : Operand} {x0_0 x0_1 x0_2 : AV} (h0 : cellsV (τ y0) = some [x0_0, x0_1, x0_2]) (l0 : [x0_0, x0_1, x0_2].all leaf = true) : fillAV τ [(0, 3, y0)] [(.v (.int .i64 0)), (.v (.bool false)), (.sl 0 0 true [])] = some [x0_0, x0_1, x0_2] := by
  simp only [fillAV, h0, l0]
  rfl
end
/-- datelinelaw.LineParts -/
def c3 : AC := (.seq (.reg [⟨(some 4), none, (.mv (.const (.bool false)))⟩]) (.seq (.seq (.reg [⟨(some 19), none, (.call (.func 7) [])⟩, ⟨(some 20), none, (.un .not (.tmp 19))⟩]) (.cond (.tmp 20) (.seq (.reg [⟨(some 4), none, (.mv (.const (.bool false)))⟩]) .ret) .skip)) (.seq (.reg [⟨(some 22), none, (.mv (.tmp 0))⟩, ⟨(some 23), none, (.call (.func 8) [(.tmp 22)])⟩, ⟨(some 21), none, (.mv (.tmp 23))⟩, ⟨(some 24), none, (.ext (.tmp 21) 0)⟩, ⟨(some 25), none, (.ext (.tmp 21) 1)⟩, ⟨(some 26), none, (.ext (.tmp 21) 2)⟩, ⟨(some 5), none, (.mv (.tmp 24))⟩, ⟨(some 6), none, (.mv (.tmp 25))⟩, ⟨(some 7), none, (.mv (.tmp 26))⟩]) (.seq (.reg [⟨(some 28), none, (.mv (.tmp 1))⟩, ⟨(some 29), none, (.call (.func 8) [(.tmp 28)])⟩, ⟨(some 27), none, (.mv (.tmp 29))⟩, ⟨(some 30), none, (.ext (.tmp 27) 0)⟩, ⟨(some 31), none, (.ext (.tmp 27) 1)⟩, ⟨(some 32), none, (.ext (.tmp 27) 2)⟩, ⟨(some 8), none, (.mv (.tmp 30))⟩, ⟨(some 9), none, (.mv (.tmp 31))⟩, ⟨(some 10), none, (.mv (.tmp 32))⟩]) (.seq (.seq (.reg [⟨(some 33), none, (.mv (.tmp 0))⟩, ⟨(some 34), none, (.len true (.tmp 33))⟩, ⟨(some 35), none, (.mv (.tmp 1))⟩, ⟨(some 36), none, (.len true (.tmp 35))⟩, ⟨(some 37), none, (.bin .add (.tmp 34) (.tmp 36))⟩, ⟨(some 38), none, (.bin .geq (.tmp 37) (.const (.int .i64 8000)))⟩, ⟨(some 39), none, (.mv (.tmp 38))⟩, ⟨(some 40), (some (39, false)), (.mv (.tmp 7))⟩, ⟨(some 41), (some (39, false)), (.bin .neq (.tmp 40) (.const (.int .i64 0)))⟩, ⟨(some 42), none, (.pick (.tmp 39) (.const (.bool true)) (.tmp 41))⟩]) (.cond (.tmp 42) (.seq (.reg [⟨(some 43), none, (.mv (.tmp 7))⟩, ⟨(some 44), none, (.bin .eql (.tmp 43) (.const (.int .i64 0)))⟩, ⟨(some 45), none, (.mv (.tmp 44))⟩, ⟨(some 46), (some (45, false)), (.mv (.tmp 5))⟩, ⟨(some 47), (some (45, false)), (.len false (.tmp 46))⟩, ⟨(some 48), (some (45, false)), (.bin .eql (.tmp 47) (.const (.int .i64 0)))⟩, ⟨(some 49), none, (.pick (.tmp 45) (.const (.bool true)) (.tmp 48))⟩, ⟨(some 4), none, (.mv (.tmp 49))⟩]) .ret) .skip)) (.seq (.reg [⟨(some 11), none, (.mv (.const (.int .i64 1)))⟩]) (.seq (.seq (.reg [⟨(some 12), none, (.mv (.const (.int .i64 0)))⟩]) (.block 0 (.loop (.seq (.seq (.reg [⟨(some 50), none, (.mv (.tmp 12))⟩, ⟨(some 51), none, (.mv (.tmp 0))⟩, ⟨(some 52), none, (.len true (.tmp 51))⟩, ⟨(some 53), none, (.bin .lss (.tmp 50) (.tmp 52))⟩]) (.cond (.tmp 53) .skip (.exit 0))) (.seq (.block 1 (.seq (.reg [⟨(some 56), none, (.mv (.tmp 0))⟩, ⟨(some 57), none, (.mv (.tmp 12))⟩, ⟨(some 58), none, (.ix (.tmp 56) (.tmp 57))⟩, ⟨(some 59), none, (.bin .eql (.tmp 58) (.const (.int .u8 10)))⟩]) (.cond (.tmp 59) (.reg [⟨(some 60), none, (.mv (.tmp 11))⟩, ⟨(some 61), none, (.bin .add (.tmp 60) (.const (.int .i64 1)))⟩, ⟨(some 11), none, (.mv (.tmp 61))⟩]) .skip))) (.reg [⟨(some 54), none, (.mv (.tmp 12))⟩, ⟨(some 55), none, (.bin .add (.tmp 54) (.const (.int .i64 1)))⟩, ⟨(some 12), none, (.mv (.tmp 55))⟩])))))) (.seq (.reg [⟨(some 63), none, (.mv (.tmp 0))⟩, ⟨(some 64), none, (.bin .add (.tmp 63) (.const (.string ⟨#[10]⟩)))⟩, ⟨(some 65), none, (.mv (.tmp 1))⟩, ⟨(some 66), none, (.bin .add (.tmp 64) (.tmp 65))⟩, ⟨(some 67), none, (.call (.func 8) [(.tmp 66)])⟩, ⟨(some 62), none, (.mv (.tmp 67))⟩, ⟨(some 68), none, (.ext (.tmp 62) 0)⟩, ⟨(some 69), none, (.ext (.tmp 62) 1)⟩, ⟨(some 70), none, (.ext (.tmp 62) 2)⟩, ⟨(some 13), none, (.mv (.tmp 68))⟩, ⟨(some 14), none, (.mv (.tmp 69))⟩, ⟨(some 15), none, (.mv (.tmp 70))⟩]) (.seq (.seq (.reg [⟨(some 71), none, (.mv (.tmp 10))⟩, ⟨(some 72), none, (.bin .neq (.tmp 71) (.const (.int .i64 0)))⟩]) (.cond (.tmp 72) (.seq (.reg [⟨(some 73), none, (.mv (.tmp 15))⟩, ⟨(some 74), none, (.mv (.tmp 10))⟩, ⟨(some 75), none, (.bin .eql (.tmp 73) (.tmp 74))⟩, ⟨(some 76), none, (.mv (.tmp 75))⟩, ⟨(some 77), (some (76, true)), (.mv (.tmp 9))⟩, ⟨(some 78), (some (76, true)), (.bin .eql (.tmp 77) (.const (.int .i64 0)))⟩, ⟨(some 79), (some (76, true)), (.mv (.tmp 78))⟩, ⟨(some 80), (some (79, true)), (.mv (.tmp 14))⟩, ⟨(some 81), (some (79, true)), (.bin .eql (.tmp 80) (.const (.int .i64 0)))⟩, ⟨(some 82), (some (76, true)), (.pick (.tmp 79) (.tmp 81) (.const (.bool false)))⟩, ⟨(some 83), (some (76, true)), (.mv (.tmp 82))⟩, ⟨(some 84), (some (83, false)), (.mv (.tmp 9))⟩, ⟨(some 85), (some (83, false)), (.bin .gtr (.tmp 84) (.const (.int .i64 0)))⟩, ⟨(some 86), (some (83, false)), (.mv (.tmp 85))⟩, ⟨(some 87), (some (86, true)), (.mv (.tmp 14))⟩, ⟨(some 88), (some (86, true)), (.mv (.tmp 9))⟩, ⟨(some 89), (some (86, true)), (.mv (.tmp 11))⟩, ⟨(some 90), (some (86, true)), (.bin .add (.tmp 88) (.tmp 89))⟩, ⟨(some 91), (some (86, true)), (.bin .eql (.tmp 87) (.tmp 90))⟩, ⟨(some 92), (some (83, false)), (.pick (.tmp 86) (.tmp 91) (.const (.bool false)))⟩, ⟨(some 93), (some (76, true)), (.pick (.tmp 83) (.const (.bool true)) (.tmp 92))⟩, ⟨(some 94), none, (.pick (.tmp 76) (.tmp 93) (.const (.bool false)))⟩, ⟨(some 4), none, (.mv (.tmp 94))⟩]) .ret) .skip)) (.seq (.seq (.reg [⟨(some 95), none, (.mv (.tmp 5))⟩, ⟨(some 96), none, (.len false (.tmp 95))⟩, ⟨(some 97), none, (.mv (.tmp 8))⟩, ⟨(some 98), none, (.len false (.tmp 97))⟩, ⟨(some 99), none, (.bin .add (.tmp 96) (.tmp 98))⟩, ⟨(some 100), none, (.bin .gtr (.tmp 99) (.const (.int .i64 200)))⟩]) (.cond (.tmp 100) (.seq (.reg [⟨(some 101), none, (.mv (.tmp 15))⟩, ⟨(some 102), none, (.bin .eql (.tmp 101) (.const (.int .i64 2)))⟩, ⟨(some 103), none, (.mv (.tmp 102))⟩, ⟨(some 104), (some (103, true)), (.mv (.tmp 14))⟩, ⟨(some 105), (some (103, true)), (.bin .eql (.tmp 104) (.const (.int .i64 0)))⟩, ⟨(some 106), none, (.pick (.tmp 103) (.tmp 105) (.const (.bool false)))⟩, ⟨(some 4), none, (.mv (.tmp 106))⟩]) .ret) .skip)) (.seq (.reg [⟨(some 16), none, (.mv (.const (.slice none 0 0)))⟩]) (.seq (.reg [⟨(some 107), none, (.mv (.tmp 16))⟩, ⟨(some 108), none, (.mv (.tmp 5))⟩, ⟨(some 109), none, (.app 29 3 40 (.tmp 107) (.tmp 108))⟩, ⟨(some 16), none, (.mv (.tmp 109))⟩]) (.seq (.seq (.reg [⟨(some 17), none, (.mv (.const (.int .i64 0)))⟩]) (.block 2 (.loop (.seq (.seq (.reg [⟨(some 110), none, (.mv (.tmp 17))⟩, ⟨(some 111), none, (.mv (.tmp 8))⟩, ⟨(some 112), none, (.len false (.tmp 111))⟩, ⟨(some 113), none, (.bin .lss (.tmp 110) (.tmp 112))⟩]) (.cond (.tmp 113) .skip (.exit 2))) (.seq (.block 3 (.seq (.reg [⟨(some 116), none, (.mv (.tmp 8))⟩, ⟨(some 117), none, (.mv (.tmp 17))⟩, ⟨(some 118), none, (.ia 3 (.tmp 116) (.tmp 117))⟩, ⟨(some 119), none, (.load true 3 (.tmp 118))⟩, ⟨(some 18), none, (.new 29 3 [(.v (.int .i64 0)), (.v (.bool false)), (.sl 0 0 true [])])⟩, ⟨none, none, (.store 3 (.tmp 18) (.tmp 119))⟩]) (.seq (.reg [⟨(some 120), none, (.fa 0 (.tmp 18))⟩, ⟨(some 121), none, (.load false 1 (.tmp 120))⟩, ⟨(some 122), none, (.mv (.tmp 11))⟩, ⟨(some 123), none, (.bin .add (.tmp 121) (.tmp 122))⟩, ⟨(some 124), none, (.fa 0 (.tmp 18))⟩, ⟨none, none, (.store 1 (.tmp 124) (.tmp 123))⟩]) (.reg [⟨(some 125), none, (.mv (.tmp 16))⟩, ⟨(some 126), none, (.load true 3 (.tmp 18))⟩, ⟨(some 127), none, (.lit 29 3 1 [(.v (.int .i64 0)), (.v (.bool false)), (.sl 0 0 true [])] [(0, (3, (.tmp 126)))])⟩, ⟨(some 128), none, (.app 29 3 40 (.tmp 125) (.tmp 127))⟩, ⟨(some 16), none, (.mv (.tmp 128))⟩])))) (.reg [⟨(some 114), none, (.mv (.tmp 17))⟩, ⟨(some 115), none, (.bin .add (.tmp 114) (.const (.int .i64 1)))⟩, ⟨(some 17), none, (.mv (.tmp 115))⟩])))))) (.seq (.reg [⟨(some 129), none, (.mv (.tmp 15))⟩, ⟨(some 130), none, (.bin .eql (.tmp 129) (.const (.int .i64 0)))⟩, ⟨(some 131), none, (.mv (.tmp 130))⟩, ⟨(some 132), (some (131, true)), (.mv (.tmp 13))⟩, ⟨(some 133), (some (131, true)), (.mv (.tmp 16))⟩, ⟨(some 134), (some (131, true)), (.call (.func 9) [(.tmp 132), (.tmp 133), (.const (.bool true))])⟩, ⟨(some 135), none, (.pick (.tmp 131) (.tmp 134) (.const (.bool false)))⟩, ⟨(some 4), none, (.mv (.tmp 135))⟩]) .ret))))))))))))))
theorem k3 : compF Tryd.prog 3 = some ⟨c3, [(.tmp 4)], 136⟩ := by kernel_rfl
theorem i3 {a0 a1 : AV} {h : AH} {R : AE → Prop} (hw : ∀ n, h.length = n → (∀ e ∈ h, e.lt n = true) → AV.ltL n [a0, a1] = true → AV.bdL [a0, a1] → aw Tryd.prog n c3 (retA [(.tmp 4)] fun x h' => ∃ z, h' = h ++ z ∧ x.lt n = true ∧ R x) [a0, a1, .any, .any, .any, .any, .any, .any, .any, .any, .any, .any, .any, .any, .any, .any, .any, .any, .any, .any, .any, .any, .any, .any, .any, .any, .any, .any, .any, .any, .any, .any, .any, .any, .any, .any, .any, .any, .any, .any, .any, .any, .any, .any, .any, .any, .any, .any, .any, .any, .any, .any, .any, .any, .any, .any, .any, .any, .any, .any, .any, .any, .any, .any, .any, .any, .any, .any, .any, .any, .any, .any, .any, .any, .any, .any, .any, .any, .any, .any, .any, .any, .any, .any, .any, .any, .any, .any, .any, .any, .any, .any, .any, .any, .any, .any, .any, .any, .any, .any, .any, .any, .any, .any, .any, .any, .any, .any, .any, .any, .any, .any, .any, .any, .any, .any, .any, .any, .any, .any, .any, .any, .any, .any, .any, .any, .any, .any, .any, .any, .any, .any, .any, .any, .any, .any] (h ++ [])) : ACalls Tryd.prog 3 [a0, a1] h fun x h' => h' = h ∧ R x := ACalls.into k3 rfl hw
theorem w3 {a0 a1 : AV} {h : AH} {res : AV} (hw : ∀ n, h.length = n → (∀ e ∈ h, e.lt n = true) → AV.ltL n [a0, a1] = true → AV.bdL [a0, a1] → aw Tryd.prog n c3 (retA [(.tmp 4)] fun x h' => ∃ z, h' = h ++ z ∧ x.lt n = true ∧ ∃ c, x = .ret c ∧ Wk c res) [a0, a1, .any, .any, .any, .any, .any, .any, .any, .any, .any, .any, .any, .any, .any, .any, .any, .any, .any, .any, .any, .any, .any, .any, .any, .any, .any, .any, .any, .any, .any, .any, .any, .any, .any, .any, .any, .any, .any, .any, .any, .any, .any, .any, .any, .any, .any, .any, .any, .any, .any, .any, .any, .any, .any, .any, .any, .any, .any, .any, .any, .any, .any, .any, .any, .any, .any, .any, .any, .any, .any, .any, .any, .any, .any, .any, .any, .any, .any, .any, .any, .any, .any, .any, .any, .any, .any, .any, .any, .any, .any, .any, .any, .any, .any, .any, .any, .any, .any, .any, .any, .any, .any, .any, .any, .any, .any, .any, .any, .any, .any, .any, .any, .any, .any, .any, .any, .any, .any, .any, .any, .any, .any, .any, .any, .any, .any, .any, .any, .any, .any, .any, .any, .any, .any, .any] (h ++ [])) : ACalls Tryd.prog 3 [a0, a1] h fun x h' => h' = h ∧ x = .ret res := ACalls.weak (ACalls.into k3 rfl hw)
theorem n3 {a0 a1 : AV} {h : AH} {R : AE → AH → Prop} (hw : ∀ n, h.length = n → (∀ e ∈ h, e.lt n = true) → AV.ltL n [a0, a1] = true → AV.bdL [a0, a1] → aw Tryd.prog n c3 (retA [(.tmp 4)] R) [a0, a1, .any, .any, .any, .any, .any, .any, .any, .any, .any, .any, .any, .any, .any, .any, .any, .any, .any, .any, .any, .any, .any, .any, .any, .any, .any, .any, .any, .any, .any, .any, .any, .any, .any, .any, .any, .any, .any, .any, .any, .any, .any, .any, .any, .any, .any, .any, .any, .any, .any, .any, .any, .any, .any, .any, .any, .any, .any, .any, .any, .any, .any, .any, .any, .any, .any, .any, .any, .any, .any, .any, .any, .any, .any, .any, .any, .any, .any, .any, .any, .any, .any, .any, .any, .any, .any, .any, .any, .any, .any, .any, .any, .any, .any, .any, .any, .any, .any, .any, .any, .any, .any, .any, .any, .any, .any, .any, .any, .any, .any, .any, .any, .any, .any, .any, .any, .any, .any, .any, .any, .any, .any, .any, .any, .any, .any, .any, .any, .any, .any, .any, .any, .any, .any, .any] (h ++ [])) : ACalls Tryd.prog 3 [a0, a1] h R := ACalls.intoN k3 rfl hw
theorem j3 {a0 a1 : AV} {h : AH} {R : AE → AH → Prop} (hw : ∀ n, h.length = n → (∀ e ∈ h, e.lt n = true) → AV.ltL n [a0, a1] = true → AV.bdL [a0, a1] → aw Tryd.prog n c3 (retA [(.tmp 4)] fun x h' => ∃ y z, h' = y ++ z ∧ y.length = n ∧ (∀ e ∈ y, e.lt n = true) ∧ x.lt n = true ∧ R x y) [a0, a1, .any, .any, .any, .any, .any, .any, .any, .any, .any, .any, .any, .any, .any, .any, .any, .any, .any, .any, .any, .any, .any, .any, .any, .any, .any, .any, .any, .any, .any, .any, .any, .any, .any, .any, .any, .any, .any, .any, .any, .any, .any, .any, .any, .any, .any, .any, .any, .any, .any, .any, .any, .any, .any, .any, .any, .any, .any, .any, .any, .any, .any, .any, .any, .any, .any, .any, .any, .any, .any, .any, .any, .any, .any, .any, .any, .any, .any, .any, .any, .any, .any, .any, .any, .any, .any, .any, .any, .any, .any, .any, .any, .any, .any, .any, .any, .any, .any, .any, .any, .any, .any, .any, .any, .any, .any, .any, .any, .any, .any, .any, .any, .any, .any, .any, .any, .any, .any, .any, .any, .any, .any, .any, .any, .any, .any, .any, .any, .any, .any, .any, .any, .any, .any, .any] (h ++ [])) : ACalls Tryd.prog 3 [a0, a1] h R := ACalls.intoG k3 rfl hw
theorem linesL_top : ∀ {ys : List Bs} {n : Int} {acc : List Ln} {B : Int}, 0 ≤ n → n + ys.length ≤ B → (∀ x ∈ acc, 0 ≤ x.1 ∧ x.1 ≤ B) → (0 ≤ (linesL n ys acc).2.1 ∧ (linesL n ys acc).2.1 ≤ B) ∧ ∀ x ∈ (linesL n ys acc).1, 0 ≤ x.1 ∧ x.1 ≤ B
  | [], n, acc, B, h0, h, ha => ⟨by simp only [linesL, List.length_nil] at h ⊢; omega, ha⟩
  | y :: ys, n, acc, B, h0, h, ha => by
    have hl : ((y :: ys).length : Int) = ys.length + 1 := by simp
    rw [hl] at h
    rw [linesL]
    split
    · exact ⟨by simp only; omega, fun x hx => by simp at hx⟩
    · refine linesL_top (by omega) (by omega) fun x hx => ?_
      split at hx
      · exact ha x hx
      · rcases List.mem_append.1 hx with hx | hx
        · exact ha x hx
        · rw [List.mem_singleton] at hx
          subst hx
          exact ⟨h0, by simp only; omega⟩
theorem splitL_top {t : ByteArray} : (0 ≤ (splitL t).2.1 ∧ (splitL t).2.1 ≤ t.size + 2) ∧ ∀ x ∈ (splitL t).1, 0 ≤ x.1 ∧ x.1 ≤ t.size + 2 := by
  have hc := cutC_len 10 (aB t)
  rw [aB_len] at hc
  have := linesL_top (n := 1) (ys := cutC 10 (aB t)) (acc := []) (B := (t.size : Int) + 2) (by omega) (by omega) (fun x hx => by simp at hx)
  unfold splitL
  split
  · exact ⟨by simp only; omega, fun x hx => by simp at hx⟩
  · split
    · exact this
    · split
      · exact ⟨by simp only; omega, fun x hx => by simp at hx⟩
      · exact this
theorem cut_step {s : ByteArray} {k : Nat} (h : k < s.size) : (cutC 10 ((aB s).drop k)).length = (cutC 10 ((aB s).drop (k + 1))).length + if byteAt s k = 10 then 1 else 0 := by
  rw [aB_at h, cutC]
  split
  · rfl
  · cases he : cutC 10 ((aB s).drop (k + 1)) with
    | nil => exact absurd he (cutC_ne 10 _)
    | cons x xs => rfl
theorem up_snoc {k : Int} {la l : List Ln} {j : Nat} (h : j < l.length) : la ++ upBy k (l.take (j + 1)) = (la ++ upBy k (l.take j)) ++ [((l[j]).1 + k, (l[j]).2)] := by
  unfold upBy
  rw [List.take_succ_eq_append_getElem h, List.map_append, List.append_assoc]; rfl
theorem up_len {k : Int} {la lb : List Ln} {j : Nat} (h : j ≤ lb.length) : (la ++ upBy k (lb.take j)).length = la.length + j := by
  unfold upBy
  rw [List.length_append, List.length_map, List.length_take]; omega
set_option maxHeartbeats 1000000 in
theorem walk {s t : ByteArray} {h : AH} (hs' : s.size ≤ 140737488355328) (ht' : t.size ≤ 140737488355328) : ACalls Tryd.prog 3 [sv s, sv t] h fun x h' => h' = h ∧ x = .ret (bv true) := by
  obtain ⟨⟨hb1, hb2⟩, hb3⟩ := splitL_top (t := t)
  refine i3 ?_
  intro N hn hlt hlA hbd
  try simp only [AV.bdL, AV.bd, and_true, true_and] at hbd
  refine w_seq ?_
  refine w_reg ?_
  refine s_val rfl (v_mv lkb) pt4 ?_
  refine s_nil ?_
  refine n_seq ?_
  refine w_seq ?_
  refine w_seq ?_
  refine w_reg ?_
  refine s_callp mp0 (lbegun_a) pt19 ?_
  refine s_val rfl ((by first | exact v_not lk19 | exact v_notB lk19)) pt20 ?_
  refine s_nil ?_
  refine n_seq ?_
  refine w_condKF lk20 (by rfl) ?_
  refine w_skip ?_
  refine n_seq ?_
  refine w_seq ?_
  refine w_reg ?_
  refine s_val rfl (v_mv lk0) pt22 ?_
  refine s_callp (mp1 lk22 mp0) (lnSplit_a (s := s)) pt23 ?_
  refine s_val rfl (v_mv lk23) pt21 ?_
  refine s_val rfl (v_ext lk21 gt0) pt24 ?_
  refine s_val rfl (v_ext lk21 gt1) pt25 ?_
  refine s_val rfl (v_ext lk21 gt2) pt26 ?_
  refine s_val rfl (v_mv lk24) pt5 ?_
  refine s_val rfl (v_mv lk25) pt6 ?_
  refine s_val rfl (v_mv lk26) pt7 ?_
  refine s_nil ?_
  refine n_seq ?_
  refine w_seq ?_
  refine w_reg ?_
  refine s_val rfl (v_mv lk1) pt28 ?_
  refine s_callp (mp1 lk28 mp0) (lnSplit_a (s := t)) pt29 ?_
  refine s_val rfl (v_mv lk29) pt27 ?_
  refine s_val rfl (v_ext lk27 gt0) pt30 ?_
  refine s_val rfl (v_ext lk27 gt1) pt31 ?_
  refine s_val rfl (v_ext lk27 gt2) pt32 ?_
  refine s_val rfl (v_mv lk30) pt8 ?_
  refine s_val rfl (v_mv lk31) pt9 ?_
  refine s_val rfl (v_mv lk32) pt10 ?_
  refine s_nil ?_
  refine n_seq ?_
  refine w_seq ?_
  refine w_seq ?_
  refine w_reg ?_
  refine s_val rfl (v_mv lk0) pt33 ?_
  refine s_val rfl (v_lenS lk33) pt34 ?_
  refine s_val rfl (v_mv lk1) pt35 ?_
  refine s_val rfl (v_lenS lk35) pt36 ?_
  refine s_val rfl (v_add lk34 lk36 (by omega) (by omega)) pt37 ?_
  refine s_val rfl (v_geq lk37 lki) pt38 ?_
  refine s_val rfl (v_mv lk38) pt39 ?_
  first | refine s_splitP gt39 pt39 pt39 (fun hg39 => ?_) (fun hg39 => ?_) | refine s_splitB gt39 pt39 pt39 (fun hg39 => ?_) (fun hg39 => ?_)
  · skip
    refine s_no gt39 pt40 ?_
    refine s_no gt39 pt41 ?_
    refine s_val rfl (v_pickT lk39 lkb) pt42 ?_
    refine s_nil ?_
    refine n_seq ?_
    refine w_condT lk42 ?_
    refine w_seq ?_
    refine w_reg ?_
    refine s_val rfl (v_mv lk7) pt43 ?_
    refine s_val rfl (v_eql lk43 lki) pt44 ?_
    refine s_val rfl (v_mv lk44) pt45 ?_
    first | refine s_splitP gt45 pt45 pt45 (fun hg45 => ?_) (fun hg45 => ?_) | refine s_splitB gt45 pt45 pt45 (fun hg45 => ?_) (fun hg45 => ?_)
    · skip
      refine s_no gt45 pt46 ?_
      refine s_no gt45 pt47 ?_
      refine s_no gt45 pt48 ?_
      refine s_val rfl (v_pickT lk45 lkb) pt49 ?_
      refine s_val rfl (v_mv lk49) pt4 ?_
      refine s_nil ?_
      refine n_seq ?_
      refine w_rets ?_
      refine r_thn ?_
      refine w_ret (rs1 (rr_t gt4)) ?_
      refine rt (by first | rfl | (simp only [AV.lt, AV.ltL, Ent.lt, List.all_cons, List.all_nil, Bool.and_true, Bool.and_self, decide_true, str_lt, ln_lt]; done) | (simp [AV.lt, AV.ltL, Ent.lt, str_lt, ln_lt, *]; done) | (simp [AV.lt, AV.ltL, Ent.lt, str_lt, ln_lt, *]; omega)) ?_
      rfl
    · skip
      refine s_do gt45 ?_
      refine s_val rfl (v_mv lk5) pt46 ?_
      refine s_do gt45 ?_
      refine s_val rfl ((by first | exact v_lenL lk46 | exact v_lenO lk46)) pt47 ?_
      refine s_do gt45 ?_
      refine s_val rfl (v_eql lk47 lki) pt48 ?_
      refine s_val rfl (v_pickF lk45 lk48) pt49 ?_
      refine s_val rfl (v_mv lk49) pt4 ?_
      refine s_nil ?_
      refine n_seq ?_
      refine w_rets ?_
      refine r_thn ?_
      refine w_ret (rs1 (rr_t gt4)) ?_
      refine rt (by first | rfl | (simp only [AV.lt, AV.ltL, Ent.lt, List.all_cons, List.all_nil, Bool.and_true, Bool.and_self, decide_true, str_lt, ln_lt]; done) | (simp [AV.lt, AV.ltL, Ent.lt, str_lt, ln_lt, *]; done) | (simp [AV.lt, AV.ltL, Ent.lt, str_lt, ln_lt, *]; omega)) ?_
      refine bvx ?_; rw [splitL_bad hg45]; rfl
  · skip
    refine s_do gt39 ?_
    refine s_val rfl (v_mv lk7) pt40 ?_
    refine s_do gt39 ?_
    refine s_val rfl (v_neq lk40 lki) pt41 ?_
    refine s_val rfl (v_pickF lk39 lk41) pt42 ?_
    refine s_nil ?_
    refine n_seq ?_
    first | refine w_cond lk42 (fun hc2 => ?_) (fun hc2 => ?_) | refine w_condB lk42 (fun hc2 => ?_) (fun hc2 => ?_)
    · skip
      refine w_seq ?_
      refine w_reg ?_
      refine s_val rfl (v_mv lk7) pt43 ?_
      refine s_val rfl (v_eql lk43 lki) pt44 ?_
      refine s_val rfl (v_mv lk44) pt45 ?_
      first | refine s_splitP gt45 pt45 pt45 (fun hg45 => ?_) (fun hg45 => ?_) | refine s_splitB gt45 pt45 pt45 (fun hg45 => ?_) (fun hg45 => ?_)
      · skip
        refine s_no gt45 pt46 ?_
        refine s_no gt45 pt47 ?_
        refine s_no gt45 pt48 ?_
        refine s_val rfl (v_pickT lk45 lkb) pt49 ?_
        refine s_val rfl (v_mv lk49) pt4 ?_
        refine s_nil ?_
        refine n_seq ?_
        refine w_rets ?_
        refine r_thn ?_
        refine w_ret (rs1 (rr_t gt4)) ?_
        refine rt (by first | rfl | (simp only [AV.lt, AV.ltL, Ent.lt, List.all_cons, List.all_nil, Bool.and_true, Bool.and_self, decide_true, str_lt, ln_lt]; done) | (simp [AV.lt, AV.ltL, Ent.lt, str_lt, ln_lt, *]; done) | (simp [AV.lt, AV.ltL, Ent.lt, str_lt, ln_lt, *]; omega)) ?_
        rfl
      · skip
        refine s_do gt45 ?_
        refine s_val rfl (v_mv lk5) pt46 ?_
        refine s_do gt45 ?_
        refine s_val rfl ((by first | exact v_lenL lk46 | exact v_lenO lk46)) pt47 ?_
        refine s_do gt45 ?_
        refine s_val rfl (v_eql lk47 lki) pt48 ?_
        refine s_val rfl (v_pickF lk45 lk48) pt49 ?_
        refine s_val rfl (v_mv lk49) pt4 ?_
        refine s_nil ?_
        refine n_seq ?_
        refine w_rets ?_
        refine r_thn ?_
        refine w_ret (rs1 (rr_t gt4)) ?_
        refine rt (by first | rfl | (simp only [AV.lt, AV.ltL, Ent.lt, List.all_cons, List.all_nil, Bool.and_true, Bool.and_self, decide_true, str_lt, ln_lt]; done) | (simp [AV.lt, AV.ltL, Ent.lt, str_lt, ln_lt, *]; done) | (simp [AV.lt, AV.ltL, Ent.lt, str_lt, ln_lt, *]; omega)) ?_
        refine bvx ?_; rw [splitL_bad hg45]; rfl
    · skip
      have hse : (splitL s).2.2 = 0 := Decidable.of_not_not hc2
      have hz : s.size + t.size < 8000 := by omega
      have hP := split_parts hz hse
      have hsl : (splitL s).1.length ≤ 200 := by
        have e := hse
        unfold splitL at e ⊢
        split
        · simp
        · rename_i h1
          rw [if_neg h1] at e
          split
          · rename_i h2; rw [linesL_bad h2]; simp
          · rename_i h2
            rw [if_neg h2] at e
            split
            · simp
            · omega
      have htl : (splitL t).1.length ≤ 200 := by
        unfold splitL
        split
        · simp
        · split
          · rename_i h2; rw [linesL_bad h2]; simp
          · split
            · simp
            · omega
      refine w_skip ?_
      refine n_seq ?_
      refine w_seq ?_
      refine w_reg ?_
      refine s_val rfl (v_mv lki) pt11 ?_
      refine s_nil ?_
      refine n_seq ?_
      refine w_seq ?_
      refine w_seq ?_
      refine w_reg ?_
      refine s_val rfl (v_mv lki) pt12 ?_
      refine s_nil ?_
      refine n_seq ?_
      refine w_block ?_
      refine w_loop (ι := Nat × Nat) (fun (x_ : Nat × Nat) => match x_ with | ⟨k, n⟩ => [(11, iv (n : Int)), (12, iv (k : Int)), (50, .any), (51, .any), (52, .any), (53, .any), (54, .any), (55, .any), (56, .any), (57, .any), (58, .any), (59, .any), (60, .any), (61, .any)]) (fun (x_ : Nat × Nat) => match x_ with | ⟨k, n⟩ => []) (fun (x_ : Nat × Nat) => match x_ with | ⟨k, n⟩ => k ≤ s.size ∧ n ≤ k + 1 ∧ n + (cutC 10 ((aB s).drop k)).length = (cutC 10 (aB s)).length + 1) (fun (x_ : Nat × Nat) => match x_ with | ⟨k, n⟩ => s.size - k) (⟨0, 1⟩) (by exact ⟨by omega, by omega, by rw [List.drop_zero]; omega⟩) (by try simp only [setsT, setsE, List.set_cons_zero, List.set_cons_succ]; exact ALe.same (wk1 rfl (wk1 rfl (wk1 rfl (wk1 rfl (wk1 rfl (wk1 rfl (wk1 rfl (wk1 rfl (wk1 rfl (wk1 rfl (wk1 rfl (wk1 (by first | rfl | exact ivx (by omega) | (simp; done)) (wk1 (by first | rfl | exact ivx (by omega) | (simp; done)) (wk1 rfl (wk1 rfl (wk1 rfl (wk1 rfl (wk1 rfl (wk1 rfl (wk1 rfl (wk1 rfl (wk1 rfl (wk1 rfl (wk1 rfl (wk1 rfl (wk1 rfl (wk1 rfl (wk1 rfl (wk1 rfl (wk1 rfl (wk1 rfl (wk1 rfl (wk1 rfl (wk1 rfl (wk1 rfl (wk1 rfl (wk1 rfl (wk1 rfl (wk1 rfl (wk1 rfl (wk1 rfl (wk1 rfl (wk1 rfl (wk1 rfl (wk1 rfl (wk1 rfl (wk1 rfl (wk1 rfl (wk1 rfl (wk1 rfl (wka (wka (wka (wka (wka (wka (wka (wka (wka (wka (wka (wka (wk1 rfl (wk1 rfl (wk1 rfl (wk1 rfl (wk1 rfl (wk1 rfl (wk1 rfl (wk1 rfl (wk1 rfl (wk1 rfl (wk1 rfl (wk1 rfl (wk1 rfl (wk1 rfl (wk1 rfl (wk1 rfl (wk1 rfl (wk1 rfl (wk1 rfl (wk1 rfl (wk1 rfl (wk1 rfl (wk1 rfl (wk1 rfl (wk1 rfl (wk1 rfl (wk1 rfl (wk1 rfl (wk1 rfl (wk1 rfl (wk1 rfl (wk1 rfl (wk1 rfl (wk1 rfl (wk1 rfl (wk1 rfl (wk1 rfl (wk1 rfl (wk1 rfl (wk1 rfl (wk1 rfl (wk1 rfl (wk1 rfl (wk1 rfl (wk1 rfl (wk1 rfl (wk1 rfl (wk1 rfl (wk1 rfl (wk1 rfl (wk1 rfl (wk1 rfl (wk1 rfl (wk1 rfl (wk1 rfl (wk1 rfl (wk1 rfl (wk1 rfl (wk1 rfl (wk1 rfl (wk1 rfl (wk1 rfl (wk1 rfl (wk1 rfl (wk1 rfl (wk1 rfl (wk1 rfl (wk1 rfl (wk1 rfl (wk1 rfl (wk1 rfl (wk1 rfl (wk1 rfl (wk1 rfl wk0)))))))))))))))))))))))))))))))))))))))))))))))))))))))))))))))))))))))))))))))))))))))))))))))))))))))))))))))))))))))))))))))))))))))) rfl) ?_
      rintro ⟨k, n⟩ hi1
      try simp only [setsT, setsE, List.set_cons_zero, List.set_cons_succ]
      obtain ⟨hk1, hk2, hk3⟩ := hi1
      refine w_seq ?_
      refine w_seq ?_
      refine w_reg ?_
      refine s_val rfl (v_mv lk12) pt50 ?_
      refine s_val rfl (v_mv lk0) pt51 ?_
      refine s_val rfl (v_lenS lk51) pt52 ?_
      refine s_val rfl (v_lss lk50 lk52) pt53 ?_
      refine s_nil ?_
      refine n_seq ?_
      first | refine w_cond lk53 (fun hc3 => ?_) (fun hc3 => ?_) | refine w_condB lk53 (fun hc3 => ?_) (fun hc3 => ?_)
      · skip
        have hst := cut_step (s := s) (k := k) (by omega)
        refine w_skip ?_
        refine n_seq ?_
        refine w_seq ?_
        refine w_block ?_
        refine w_seq ?_
        refine w_reg ?_
        refine s_val rfl (v_mv lk0) pt56 ?_
        refine s_val rfl (v_mv lk12) pt57 ?_
        refine s_val rfl (v_ix lk56 lk57 (by omega) (by omega)) pt58 ?_
        refine s_val rfl (v_eql lk58 lki) pt59 ?_
        refine s_nil ?_
        refine n_seq ?_
        first | refine w_cond lk59 (fun hc4 => ?_) (fun hc4 => ?_) | refine w_condB lk59 (fun hc4 => ?_) (fun hc4 => ?_)
        · skip
          have hx : byteAt s k = 10 := byte_eq (n := 10) (by omega) hc4
          rw [if_pos hx] at hst
          refine w_reg ?_
          refine s_val rfl (v_mv lk11) pt60 ?_
          refine s_val rfl (v_add lk60 lki (by omega) (by omega)) pt61 ?_
          refine s_val rfl (v_mv lk61) pt11 ?_
          refine s_nil ?_
          refine n_blk ?_
          refine n_seq ?_
          refine w_reg ?_
          refine s_val rfl (v_mv lk12) pt54 ?_
          refine s_val rfl (v_add lk54 lki (by omega) (by omega)) pt55 ?_
          refine s_val rfl (v_mv lk55) pt12 ?_
          refine s_nil ?_
          refine n_thn ?_
          refine LoopTo.mk (⟨k + 1, n + 1⟩) (by first | omega | (dsimp only; omega)) (by (try dsimp only); exact ⟨by omega, by omega, by omega⟩) (by (try dsimp only); (try simp only [setsT, setsE, List.set_cons_zero, List.set_cons_succ]); exact ALe.same (wk1 rfl (wk1 rfl (wk1 rfl (wk1 rfl (wk1 rfl (wk1 rfl (wk1 rfl (wk1 rfl (wk1 rfl (wk1 rfl (wk1 rfl (wk1 (by first | rfl | exact ivx (by omega) | (simp; done)) (wk1 (by first | rfl | exact ivx (by omega) | (simp; done)) (wk1 rfl (wk1 rfl (wk1 rfl (wk1 rfl (wk1 rfl (wk1 rfl (wk1 rfl (wk1 rfl (wk1 rfl (wk1 rfl (wk1 rfl (wk1 rfl (wk1 rfl (wk1 rfl (wk1 rfl (wk1 rfl (wk1 rfl (wk1 rfl (wk1 rfl (wk1 rfl (wk1 rfl (wk1 rfl (wk1 rfl (wk1 rfl (wk1 rfl (wk1 rfl (wk1 rfl (wk1 rfl (wk1 rfl (wk1 rfl (wk1 rfl (wk1 rfl (wk1 rfl (wk1 rfl (wk1 rfl (wk1 rfl (wk1 rfl (wka (wka (wka (wka (wka (wka (wka (wka (wka (wka (wka (wka (wk1 rfl (wk1 rfl (wk1 rfl (wk1 rfl (wk1 rfl (wk1 rfl (wk1 rfl (wk1 rfl (wk1 rfl (wk1 rfl (wk1 rfl (wk1 rfl (wk1 rfl (wk1 rfl (wk1 rfl (wk1 rfl (wk1 rfl (wk1 rfl (wk1 rfl (wk1 rfl (wk1 rfl (wk1 rfl (wk1 rfl (wk1 rfl (wk1 rfl (wk1 rfl (wk1 rfl (wk1 rfl (wk1 rfl (wk1 rfl (wk1 rfl (wk1 rfl (wk1 rfl (wk1 rfl (wk1 rfl (wk1 rfl (wk1 rfl (wk1 rfl (wk1 rfl (wk1 rfl (wk1 rfl (wk1 rfl (wk1 rfl (wk1 rfl (wk1 rfl (wk1 rfl (wk1 rfl (wk1 rfl (wk1 rfl (wk1 rfl (wk1 rfl (wk1 rfl (wk1 rfl (wk1 rfl (wk1 rfl (wk1 rfl (wk1 rfl (wk1 rfl (wk1 rfl (wk1 rfl (wk1 rfl (wk1 rfl (wk1 rfl (wk1 rfl (wk1 rfl (wk1 rfl (wk1 rfl (wk1 rfl (wk1 rfl (wk1 rfl (wk1 rfl (wk1 rfl (wk1 rfl (wk1 rfl wk0)))))))))))))))))))))))))))))))))))))))))))))))))))))))))))))))))))))))))))))))))))))))))))))))))))))))))))))))))))))))))))))))))))))))) rfl)
        · skip
          have hx : ¬ byteAt s k = 10 := byte_ne (n := 10) (by omega) hc4
          rw [if_neg hx] at hst
          refine w_skip ?_
          refine n_blk ?_
          refine n_seq ?_
          refine w_reg ?_
          refine s_val rfl (v_mv lk12) pt54 ?_
          refine s_val rfl (v_add lk54 lki (by omega) (by omega)) pt55 ?_
          refine s_val rfl (v_mv lk55) pt12 ?_
          refine s_nil ?_
          refine n_thn ?_
          refine LoopTo.mk (⟨k + 1, n⟩) (by first | omega | (dsimp only; omega)) (by (try dsimp only); exact ⟨by omega, by omega, by omega⟩) (by (try dsimp only); (try simp only [setsT, setsE, List.set_cons_zero, List.set_cons_succ]); exact ALe.same (wk1 rfl (wk1 rfl (wk1 rfl (wk1 rfl (wk1 rfl (wk1 rfl (wk1 rfl (wk1 rfl (wk1 rfl (wk1 rfl (wk1 rfl (wk1 (by first | rfl | exact ivx (by omega) | (simp; done)) (wk1 (by first | rfl | exact ivx (by omega) | (simp; done)) (wk1 rfl (wk1 rfl (wk1 rfl (wk1 rfl (wk1 rfl (wk1 rfl (wk1 rfl (wk1 rfl (wk1 rfl (wk1 rfl (wk1 rfl (wk1 rfl (wk1 rfl (wk1 rfl (wk1 rfl (wk1 rfl (wk1 rfl (wk1 rfl (wk1 rfl (wk1 rfl (wk1 rfl (wk1 rfl (wk1 rfl (wk1 rfl (wk1 rfl (wk1 rfl (wk1 rfl (wk1 rfl (wk1 rfl (wk1 rfl (wk1 rfl (wk1 rfl (wk1 rfl (wk1 rfl (wk1 rfl (wk1 rfl (wk1 rfl (wka (wka (wka (wka (wka (wka (wka (wka (wka (wka (wka (wka (wk1 rfl (wk1 rfl (wk1 rfl (wk1 rfl (wk1 rfl (wk1 rfl (wk1 rfl (wk1 rfl (wk1 rfl (wk1 rfl (wk1 rfl (wk1 rfl (wk1 rfl (wk1 rfl (wk1 rfl (wk1 rfl (wk1 rfl (wk1 rfl (wk1 rfl (wk1 rfl (wk1 rfl (wk1 rfl (wk1 rfl (wk1 rfl (wk1 rfl (wk1 rfl (wk1 rfl (wk1 rfl (wk1 rfl (wk1 rfl (wk1 rfl (wk1 rfl (wk1 rfl (wk1 rfl (wk1 rfl (wk1 rfl (wk1 rfl (wk1 rfl (wk1 rfl (wk1 rfl (wk1 rfl (wk1 rfl (wk1 rfl (wk1 rfl (wk1 rfl (wk1 rfl (wk1 rfl (wk1 rfl (wk1 rfl (wk1 rfl (wk1 rfl (wk1 rfl (wk1 rfl (wk1 rfl (wk1 rfl (wk1 rfl (wk1 rfl (wk1 rfl (wk1 rfl (wk1 rfl (wk1 rfl (wk1 rfl (wk1 rfl (wk1 rfl (wk1 rfl (wk1 rfl (wk1 rfl (wk1 rfl (wk1 rfl (wk1 rfl (wk1 rfl (wk1 rfl (wk1 rfl (wk1 rfl wk0)))))))))))))))))))))))))))))))))))))))))))))))))))))))))))))))))))))))))))))))))))))))))))))))))))))))))))))))))))))))))))))))))))))))) rfl)
      · skip
        have hnn : n = (cutC 10 (aB s)).length := by
          rw [show (aB s).drop k = [] from aB_end (by omega)] at hk3
          simp only [cutC, List.length_cons, List.length_nil] at hk3
          omega
        rw [← hnn] at hP
        refine w_exit ?_
        refine x_thn ?_
        refine x_thn ?_
        refine x_blk ?_
        refine n_seq ?_
        refine w_seq ?_
        refine w_reg ?_
        refine s_val rfl (v_mv lk0) pt63 ?_
        refine s_val rfl (v_addS lk63 lks (by rw [show (⟨#[10]⟩ : ByteArray).size = 1 from rfl]; omega)) pt64 ?_
        refine s_val rfl (v_mv lk1) pt65 ?_
        refine s_val rfl (v_addS lk64 lk65 (by rw [ByteArray.size_append, show (⟨#[10]⟩ : ByteArray).size = 1 from rfl]; omega)) pt66 ?_
        refine s_callp (mp1 lk66 mp0) (lnSplit_a (s := s ++ bA [10] ++ t)) pt67 ?_
        refine s_val rfl (v_mv lk67) pt62 ?_
        refine s_val rfl (v_ext lk62 gt0) pt68 ?_
        refine s_val rfl (v_ext lk62 gt1) pt69 ?_
        refine s_val rfl (v_ext lk62 gt2) (ptS pt0) ?_
        refine s_val rfl (v_mv lk68) pt13 ?_
        refine s_val rfl (v_mv lk69) pt14 ?_
        refine s_val rfl (v_mv (lkS lk0)) pt15 ?_
        refine s_nil ?_
        refine n_seq ?_
        refine w_seq ?_
        refine w_seq ?_
        refine w_reg ?_
        refine s_val rfl (v_mv lk10) (ptS pt1) ?_
        refine s_val rfl (v_neq (lkS lk1) lki) (ptS pt2) ?_
        refine s_nil ?_
        refine n_seq ?_
        first | refine w_cond (lkS lk2) (fun hc5 => ?_) (fun hc5 => ?_) | refine w_condB (lkS lk2) (fun hc5 => ?_) (fun hc5 => ?_)
        · skip
          rw [if_pos hc5] at hP
          rw [hP]
          refine w_seq ?_
          refine w_reg ?_
          refine s_val rfl (v_mv lk15) (ptS pt3) ?_
          refine s_val rfl (v_mv lk10) (ptS pt4) ?_
          refine s_val rfl ((by first | exact v_eql (lkS lk3) (lkS lk4) | exact v_eqlS (lkS lk3) (lkS lk4))) (ptS pt5) ?_
          refine s_val rfl (v_mv (lkS lk5)) (ptS pt6) ?_
          refine s_known (gtS gt6) (b := true) (by exact decide_eq_true rfl) (ptS pt6) ?_
          refine s_do (gtS gt6) ?_
          refine s_val rfl (v_mv lk9) (ptS pt7) ?_
          refine s_do (gtS gt6) ?_
          refine s_val rfl (v_eql (lkS lk7) lki) (ptS pt8) ?_
          refine s_do (gtS gt6) ?_
          refine s_val rfl (v_mv (lkS lk8)) (ptS pt9) ?_
          first | refine s_splitP (gtS gt9) (ptS pt9) (ptS pt9) (fun hg79 => ?_) (fun hg79 => ?_) | refine s_splitB (gtS gt9) (ptS pt9) (ptS pt9) (fun hg79 => ?_) (fun hg79 => ?_)
          · skip
            rw [if_pos hg79]
            refine s_do (gtS gt9) ?_
            refine s_val rfl (v_mv lk14) (ptS pt10) ?_
            refine s_do (gtS gt9) ?_
            refine s_val rfl (v_eql (lkS lk10) lki) (ptS pt11) ?_
            refine s_do (gtS gt6) ?_
            refine s_val rfl (v_pickT (lkS lk9) (lkS lk11)) (ptS pt12) ?_
            refine s_do (gtS gt6) ?_
            refine s_val rfl (v_mv (lkS lk12)) (ptS pt13) ?_
            refine s_known (gtS gt13) (b := true) (by exact decide_eq_true rfl) (ptS pt13) ?_
            refine s_no (gtS gt13) (ptS pt14) ?_
            refine s_no (gtS gt13) (ptS pt15) ?_
            refine s_no (gtS gt13) (ptS pt16) ?_
            refine s_nu (gtS gt16) (ptS pt17) ?_
            refine s_nu (gtS gt16) (ptS pt18) ?_
            refine s_nu (gtS gt16) (ptS pt19) ?_
            refine s_nu (gtS gt16) (ptS pt20) ?_
            refine s_nu (gtS gt16) (ptS pt21) ?_
            refine s_no (gtS gt13) (ptS pt22) ?_
            refine s_do (gtS gt6) ?_
            refine s_val rfl (v_pickT (lkS lk13) lkb) (ptS pt23) ?_
            refine s_val rfl (v_pickT (lkS lk6) (lkS lk23)) (ptS pt24) ?_
            refine s_val rfl (v_mv (lkS lk24)) pt4 ?_
            refine s_nil ?_
            refine n_seq ?_
            refine w_rets ?_
            refine r_thn ?_
            refine w_ret (rs1 (rr_t gt4)) ?_
            refine rt (by first | rfl | (simp only [AV.lt, AV.ltL, Ent.lt, List.all_cons, List.all_nil, Bool.and_true, Bool.and_self, decide_true, str_lt, ln_lt]; done) | (simp [AV.lt, AV.ltL, Ent.lt, str_lt, ln_lt, *]; done) | (simp [AV.lt, AV.ltL, Ent.lt, str_lt, ln_lt, *]; omega)) ?_
            rfl
          · skip
            rw [if_neg hg79]
            refine s_no (gtS gt9) (ptS pt10) ?_
            refine s_no (gtS gt9) (ptS pt11) ?_
            refine s_do (gtS gt6) ?_
            refine s_val rfl (v_pickF (lkS lk9) lkb) (ptS pt12) ?_
            refine s_do (gtS gt6) ?_
            refine s_val rfl (v_mv (lkS lk12)) (ptS pt13) ?_
            refine s_do (gtS gt13) ?_
            refine s_val rfl (v_mv lk9) (ptS pt14) ?_
            refine s_do (gtS gt13) ?_
            refine s_val rfl (v_gtr (lkS lk14) lki) (ptS pt15) ?_
            refine s_do (gtS gt13) ?_
            refine s_val rfl (v_mv (lkS lk15)) (ptS pt16) ?_
            refine s_known (gtS gt16) (b := true) (by exact decide_eq_true (by omega)) (ptS pt16) ?_
            refine s_do (gtS gt16) ?_
            refine s_val rfl (v_mv lk14) (ptS pt17) ?_
            refine s_do (gtS gt16) ?_
            refine s_val rfl (v_mv lk9) (ptS pt18) ?_
            refine s_do (gtS gt16) ?_
            refine s_val rfl (v_mv lk11) (ptS pt19) ?_
            refine s_do (gtS gt16) ?_
            refine s_val rfl (v_add (lkS lk18) (lkS lk19) (by omega) (by omega)) (ptS pt20) ?_
            refine s_do (gtS gt16) ?_
            refine s_val rfl (v_eql (lkS lk17) (lkS lk20)) (ptS pt21) ?_
            refine s_do (gtS gt13) ?_
            refine s_val rfl (v_pickT (lkS lk16) (lkS lk21)) (ptS pt22) ?_
            refine s_do (gtS gt6) ?_
            refine s_val rfl (v_pickF (lkS lk13) (lkS lk22)) (ptS pt23) ?_
            refine s_val rfl (v_pickT (lkS lk6) (lkS lk23)) (ptS pt24) ?_
            refine s_val rfl (v_mv (lkS lk24)) pt4 ?_
            refine s_nil ?_
            refine n_seq ?_
            refine w_rets ?_
            refine r_thn ?_
            refine w_ret (rs1 (rr_t gt4)) ?_
            refine rt (by first | rfl | (simp only [AV.lt, AV.ltL, Ent.lt, List.all_cons, List.all_nil, Bool.and_true, Bool.and_self, decide_true, str_lt, ln_lt]; done) | (simp [AV.lt, AV.ltL, Ent.lt, str_lt, ln_lt, *]; done) | (simp [AV.lt, AV.ltL, Ent.lt, str_lt, ln_lt, *]; omega)) ?_
            refine bvx ?_; exact decide_eq_true rfl
        · skip
          rw [if_neg hc5] at hP
          refine w_skip ?_
          refine n_seq ?_
          refine w_seq ?_
          refine w_seq ?_
          refine w_reg ?_
          refine s_val rfl (v_mv lk5) (ptS pt25) ?_
          refine s_val rfl ((by first | exact v_lenL (lkS lk25) | exact v_lenO (lkS lk25))) (ptS pt26) ?_
          refine s_val rfl (v_mv lk8) (ptS pt27) ?_
          refine s_val rfl ((by first | exact v_lenL (lkS lk27) | exact v_lenO (lkS lk27))) (ptS pt28) ?_
          refine s_val rfl (v_add (lkS lk26) (lkS lk28) (by omega) (by omega)) (ptS pt29) ?_
          refine s_val rfl (v_gtr (lkS lk29) lki) (ptS pt30) ?_
          refine s_nil ?_
          refine n_seq ?_
          first | refine w_cond (lkS lk30) (fun hc6 => ?_) (fun hc6 => ?_) | refine w_condB (lkS lk30) (fun hc6 => ?_) (fun hc6 => ?_)
          · skip
            rw [if_pos (by omega)] at hP
            rw [hP]
            refine w_seq ?_
            refine w_reg ?_
            refine s_val rfl (v_mv lk15) (ptS pt31) ?_
            refine s_val rfl (v_eql (lkS lk31) lki) (ptS pt32) ?_
            refine s_val rfl (v_mv (lkS lk32)) (ptS pt33) ?_
            refine s_known (gtS gt33) (b := true) (by exact decide_eq_true rfl) (ptS pt33) ?_
            refine s_do (gtS gt33) ?_
            refine s_val rfl (v_mv lk14) (ptS pt34) ?_
            refine s_do (gtS gt33) ?_
            refine s_val rfl (v_eql (lkS lk34) lki) (ptS pt35) ?_
            refine s_val rfl (v_pickT (lkS lk33) (lkS lk35)) (ptS pt36) ?_
            refine s_val rfl (v_mv (lkS lk36)) pt4 ?_
            refine s_nil ?_
            refine n_seq ?_
            refine w_rets ?_
            refine r_thn ?_
            refine w_ret (rs1 (rr_t gt4)) ?_
            refine rt (by first | rfl | (simp only [AV.lt, AV.ltL, Ent.lt, List.all_cons, List.all_nil, Bool.and_true, Bool.and_self, decide_true, str_lt, ln_lt]; done) | (simp [AV.lt, AV.ltL, Ent.lt, str_lt, ln_lt, *]; done) | (simp [AV.lt, AV.ltL, Ent.lt, str_lt, ln_lt, *]; omega)) ?_
            refine bvx ?_; exact decide_eq_true rfl
          · skip
            rw [if_neg (by omega)] at hP
            rw [hP]
            refine w_skip ?_
            refine n_seq ?_
            refine w_seq ?_
            refine w_reg ?_
            refine s_val rfl (v_mv lkn) pt16 ?_
            refine s_nil ?_
            refine n_seqw (ALe.own0' (st' := 3) (ty := 29) gt16 (hl0 hn) pt16 ha0) ?_
            refine w_seq ?_
            refine w_reg ?_
            refine s_val rfl (v_mv lk16) (ptS pt37) ?_
            refine s_val rfl (v_mv lk5) (ptS pt38) ?_
            refine s_eff rfl rfl (e_app (sc_sl (lkS lk38) (ln_len _)) (lkS lk37) (hga hn rfl) rfl (by omega) (ln_leaf _) (hs0 hn)) (ptS pt39) ?_
            refine s_val rfl (v_mv (lkS lk39)) pt16 ?_
            refine s_nil ?_
            refine n_seq ?_
            refine w_seq ?_
            refine w_seq ?_
            refine w_reg ?_
            refine s_val rfl (v_mv lki) pt17 ?_
            refine s_nil ?_
            refine n_seq ?_
            refine w_block ?_
            refine w_loop (ι := Nat × Nat) (fun (x_ : Nat × Nat) => match x_ with | ⟨j, v⟩ => [(16, .own (N + 0) v ((splitL s).1.length + j)), (17, iv (j : Int)), (18, .any), (110, .any), (111, .any), (112, .any), (113, .any), (114, .any), (115, .any), (116, .any), (117, .any), (118, .any), (119, .any), (120, .any), (121, .any), (122, .any), (123, .any), (124, .any), (125, .any), (126, .any), (127, .any), (128, .any)]) (fun (x_ : Nat × Nat) => match x_ with | ⟨j, v⟩ => [(0, .mk v 29 3 (rows lnC ((splitL s).1 ++ upBy n ((splitL t).1.take j))))]) (fun (x_ : Nat × Nat) => match x_ with | ⟨j, v⟩ => j ≤ (splitL t).1.length) (fun (x_ : Nat × Nat) => match x_ with | ⟨j, v⟩ => (splitL t).1.length - j) (⟨0, 1⟩) (by exact Nat.zero_le _) (by try simp only [setsT, setsE, List.set_cons_zero, List.set_cons_succ]; exact ALe.same (wk1 rfl (wk1 rfl (wk1 rfl (wk1 rfl (wk1 rfl (wk1 rfl (wk1 rfl (wk1 rfl (wk1 rfl (wk1 rfl (wk1 rfl (wk1 rfl (wk1 rfl (wk1 rfl (wk1 rfl (wk1 rfl (wk1 (by first | rfl | (simp; done) | exact ivx (by omega)) (wk1 (by first | rfl | (simp; done) | exact ivx (by omega)) (wka (wk1 rfl (wk1 rfl (wk1 rfl (wk1 rfl (wk1 rfl (wk1 rfl (wk1 rfl (wk1 rfl (wk1 rfl (wk1 rfl (wk1 rfl (wk1 rfl (wk1 rfl (wk1 rfl (wk1 rfl (wk1 rfl (wk1 rfl (wk1 rfl (wk1 rfl (wk1 rfl (wk1 rfl (wk1 rfl (wk1 rfl (wk1 rfl (wk1 rfl (wk1 rfl (wk1 rfl (wk1 rfl (wk1 rfl (wk1 rfl (wk1 rfl (wk1 rfl (wk1 rfl (wk1 rfl (wk1 rfl (wk1 rfl (wk1 rfl (wk1 rfl (wk1 rfl (wk1 rfl (wk1 rfl (wk1 rfl (wk1 rfl (wk1 rfl (wk1 rfl (wk1 rfl (wk1 rfl (wk1 rfl (wk1 rfl (wk1 rfl (wk1 rfl (wk1 rfl (wk1 rfl (wk1 rfl (wk1 rfl (wk1 rfl (wk1 rfl (wk1 rfl (wk1 rfl (wk1 rfl (wk1 rfl (wk1 rfl (wk1 rfl (wk1 rfl (wk1 rfl (wk1 rfl (wk1 rfl (wk1 rfl (wk1 rfl (wk1 rfl (wk1 rfl (wk1 rfl (wk1 rfl (wk1 rfl (wk1 rfl (wk1 rfl (wk1 rfl (wk1 rfl (wk1 rfl (wk1 rfl (wk1 rfl (wk1 rfl (wk1 rfl (wk1 rfl (wk1 rfl (wk1 rfl (wk1 rfl (wk1 rfl (wk1 rfl (wk1 rfl (wk1 rfl (wka (wka (wka (wka (wka (wka (wka (wka (wka (wka (wka (wka (wka (wka (wka (wka (wka (wka (wka (wk1 rfl (wk1 rfl (wk1 rfl (wk1 rfl (wk1 rfl (wk1 rfl (wk1 rfl wk0)))))))))))))))))))))))))))))))))))))))))))))))))))))))))))))))))))))))))))))))))))))))))))))))))))))))))))))))))))))))))))))))))))))))) (by simp [upBy])) ?_
            rintro ⟨j, v⟩ hi2
            try simp only [setsT, setsE, List.set_cons_zero, List.set_cons_succ]
            refine w_seq ?_
            refine w_seq ?_
            refine w_reg ?_
            refine s_val rfl (v_mv lk17) (ptS pt40) ?_
            refine s_val rfl (v_mv lk8) (ptS pt41) ?_
            refine s_val rfl ((by first | exact v_lenL (lkS lk41) | exact v_lenO (lkS lk41))) (ptS pt42) ?_
            refine s_val rfl (v_lss (lkS lk40) (lkS lk42)) (ptS pt43) ?_
            refine s_nil ?_
            refine n_seq ?_
            first | refine w_cond (lkS lk43) (fun hc7 => ?_) (fun hc7 => ?_) | refine w_condB (lkS lk43) (fun hc7 => ?_) (fun hc7 => ?_)
            · skip
              have hj : j < (splitL t).1.length := by omega
              have hjb := hb3 _ (List.getElem_mem hj)
              refine w_skip ?_
              refine n_seq ?_
              refine w_seq ?_
              refine w_block ?_
              refine w_seq ?_
              refine w_reg ?_
              refine s_val rfl (v_mv lk8) (ptS pt46) ?_
              refine s_val rfl (v_mv lk17) (ptS pt47) ?_
              refine s_val rfl (v_iaR (lkS lk46) (lkS lk47) ln_len1 (Nat.le_of_ble_eq_true rfl) (by first | rfl | omega) (by omega) (by first | rfl | omega) rfl) (ptS pt48) ?_
              refine s_val rfl (v_loadrA (lkS lk48) LawLineParts_tk_3 rfl) (ptS pt49) ?_
              refine s_eff rfl rfl (e_new (hl1 hn) ha1) pt18 ?_
              refine s_eff rfl rfl (e_store lk18 (cvl (lkS lk49) rfl) (hga hn rfl) rfl (Nat.le_of_ble_eq_true rfl) rfl LawLineParts_sc0_3 (hs1 hn)) ptn ?_
              refine s_nil ?_
              refine n_seq ?_
              refine w_seq ?_
              refine w_reg ?_
              refine s_val rfl (v_fap0 lk18) (ptS pt50) ?_
              refine s_val rfl (v_loadp (lkS lk50) (hga hn rfl) gt0) (ptS pt51) ?_
              refine s_val rfl (v_mv lk11) (ptS pt52) ?_
              refine s_val rfl (v_add (lkS lk51) (lkS lk52) (by omega) (by omega)) (ptS pt53) ?_
              refine s_val rfl (v_fap0 lk18) (ptS pt54) ?_
              refine s_eff rfl rfl (e_store (lkS lk54) (cvl (lkS lk53) rfl) (hga hn rfl) rfl (Nat.le_of_ble_eq_true rfl) rfl LawLineParts_sc0_1 (hs1 hn)) ptn ?_
              refine s_nil ?_
              refine n_seq ?_
              refine w_reg ?_
              refine s_val rfl (v_mv lk16) (ptS pt55) ?_
              refine s_val rfl (v_loadpA lk18 (hga hn rfl) LawLineParts_tk0_3 rfl) (ptS pt56) ?_
              refine s_eff rfl rfl (e_lit (LawLineParts_LineParts_131 (cvl (lkS lk56) rfl) rfl) (hl2 hn) ha2) (ptS pt57) ?_
              refine s_eff rfl rfl (e_app (sc_own (lkS lk57) (hga hn rfl) rfl LawLineParts_tk_3 (Nat.le_of_ble_eq_true rfl)) (lkS lk55) (hga hn rfl) (by rw [ln_len, up_len (by omega)]) (by omega) rfl (hs0 hn)) (ptS pt58) ?_
              refine s_val rfl (v_mv (lkS lk58)) pt16 ?_
              refine s_nil ?_
              refine n_blk ?_
              refine n_seq ?_
              refine w_reg ?_
              refine s_val rfl (v_mv lk17) (ptS pt44) ?_
              refine s_val rfl (v_add (lkS lk44) lki (by omega) (by omega)) (ptS pt45) ?_
              refine s_val rfl (v_mv (lkS lk45)) pt17 ?_
              refine s_nil ?_
              refine n_thn ?_
              refine LoopTo.mk (⟨j + 1, v + 1⟩) (by first | omega | (dsimp only; omega)) (by (try dsimp only); omega) (by (try dsimp only); (try simp only [setsT, setsE, List.set_cons_zero, List.set_cons_succ]); exact ALe.back (wk1 rfl (wk1 rfl (wk1 rfl (wk1 rfl (wk1 rfl (wk1 rfl (wk1 rfl (wk1 rfl (wk1 rfl (wk1 rfl (wk1 rfl (wk1 rfl (wk1 rfl (wk1 rfl (wk1 rfl (wk1 rfl (wk1 (by first | rfl | exact ivx (by omega) | (simp; done)) (wk1 (by first | rfl | exact ivx (by omega) | (simp; done)) (wka (wk1 rfl (wk1 rfl (wk1 rfl (wk1 rfl (wk1 rfl (wk1 rfl (wk1 rfl (wk1 rfl (wk1 rfl (wk1 rfl (wk1 rfl (wk1 rfl (wk1 rfl (wk1 rfl (wk1 rfl (wk1 rfl (wk1 rfl (wk1 rfl (wk1 rfl (wk1 rfl (wk1 rfl (wk1 rfl (wk1 rfl (wk1 rfl (wk1 rfl (wk1 rfl (wk1 rfl (wk1 rfl (wk1 rfl (wk1 rfl (wk1 rfl (wk1 rfl (wk1 rfl (wk1 rfl (wk1 rfl (wk1 rfl (wk1 rfl (wk1 rfl (wk1 rfl (wk1 rfl (wk1 rfl (wk1 rfl (wk1 rfl (wk1 rfl (wk1 rfl (wk1 rfl (wk1 rfl (wk1 rfl (wk1 rfl (wk1 rfl (wk1 rfl (wk1 rfl (wk1 rfl (wk1 rfl (wk1 rfl (wk1 rfl (wk1 rfl (wk1 rfl (wk1 rfl (wk1 rfl (wk1 rfl (wk1 rfl (wk1 rfl (wk1 rfl (wk1 rfl (wk1 rfl (wk1 rfl (wk1 rfl (wk1 rfl (wk1 rfl (wk1 rfl (wk1 rfl (wk1 rfl (wk1 rfl (wk1 rfl (wk1 rfl (wk1 rfl (wk1 rfl (wk1 rfl (wk1 rfl (wk1 rfl (wk1 rfl (wk1 rfl (wk1 rfl (wk1 rfl (wk1 rfl (wk1 rfl (wk1 rfl (wk1 rfl (wk1 rfl (wk1 rfl (wka (wka (wka (wka (wka (wka (wka (wka (wka (wka (wka (wka (wka (wka (wka (wka (wka (wka (wka (wk1 rfl (wk1 rfl (wk1 rfl (wk1 rfl (wk1 rfl (wk1 rfl (wk1 rfl wk0)))))))))))))))))))))))))))))))))))))))))))))))))))))))))))))))))))))))))))))))))))))))))))))))))))))))))))))))))))))))))))))))))))))))) (by rw [up_snoc hj]; simp only [rows_app, rows_one, lnC]; rfl) (k := N + 1) (by simp only [List.length_cons, List.length_nil, hn]) (by omega) (by first | rfl | (simp only [AV.lt, AV.ltL, Ent.lt, List.all_cons, List.all_nil, Bool.and_true, Bool.and_self, decide_true, str_lt, ln_lt]; done) | (simp [AV.lt, AV.ltL, Ent.lt, str_lt, ln_lt, *]; done) | (simp [AV.lt, AV.ltL, Ent.lt, str_lt, ln_lt, *]; omega)) (ltw (by omega) hlt) (by first | rfl | (simp only [AV.lt, AV.ltL, Ent.lt, List.all_cons, List.all_nil, Bool.and_true, Bool.and_self, decide_true, str_lt, ln_lt]; done) | (simp [AV.lt, AV.ltL, Ent.lt, str_lt, ln_lt, *]; done) | (simp [AV.lt, AV.ltL, Ent.lt, str_lt, ln_lt, *]; omega)))
            · skip
              have hje : j = (splitL t).1.length := by omega
              have hL := up_len (k := n) (la := (splitL s).1) (lb := (splitL t).1) (j := j) (by omega)
              rw [List.take_of_length_le (by omega)] at hL ⊢
              rw [← hL]
              refine w_exit ?_
              refine x_thn ?_
              refine x_thn ?_
              refine x_blk ?_
              skip
              refine n_seqw (ALe.iceR (hga hn rfl) gt16 (List.take_of_length_le (by rw [ln_len]; exact Nat.le_refl _)) (by rw [ln_len]; exact Nat.le_refl _) pt16 (hs0 hn)) ?_
              refine w_seq ?_
              refine w_reg ?_
              refine s_val rfl (v_mv lk15) (ptS pt59) ?_
              refine s_val rfl (v_eql (lkS lk59) lki) (ptS pt60) ?_
              refine s_val rfl (v_mv (lkS lk60)) (ptS pt61) ?_
              refine s_known (gtS gt61) (b := true) (by exact decide_eq_true rfl) (ptS pt61) ?_
              refine s_do (gtS gt61) ?_
              refine s_val rfl (v_mv lk13) (ptS pt62) ?_
              refine s_do (gtS gt61) ?_
              refine s_val rfl (v_mv lk16) (ptS pt63) ?_
              refine s_do (gtS gt61) ?_
              refine s_callp (mp1 (lkS lk62) (mp1 (lkS lk63) (mp1 lkb mp0))) (rsameLines_a (a := (splitL s).1 ++ upBy n (splitL t).1) (b := (splitL s).1 ++ upBy n (splitL t).1) (nums := true)) (ptS pt64) ?_
              refine s_val rfl (v_pickT (lkS lk61) (lkS lk64)) (ptS pt65) ?_
              refine s_val rfl (v_mv (lkS lk65)) pt4 ?_
              refine s_nil ?_
              refine n_seq ?_
              refine w_rets ?_
              refine w_ret (rs1 (rr_t gt4)) ?_
              refine rt (by first | rfl | (simp only [AV.lt, AV.ltL, Ent.lt, List.all_cons, List.all_nil, Bool.and_true, Bool.and_self, decide_true, str_lt, ln_lt]; done) | (simp [AV.lt, AV.ltL, Ent.lt, str_lt, ln_lt, *]; done) | (simp [AV.lt, AV.ltL, Ent.lt, str_lt, ln_lt, *]; omega)) ?_
              refine bvx ?_; exact sameLn_true.2 rfl

set_option maxRecDepth 100000 in
theorem lifted (os : Os) (started : os.Started) (H : Type) (enc : TypeId × Value → H) :
    ReturnsInHanded {} Tryd.checked os 3 .any (fun w args => (Rows.linePartsSpec.pre enc Tryd.prog Tryd.f3 [] false w args ∧ laidMetH Tryd.prog Rows.linePartsRow.laid w) ∧ sizedMet enc Tryd.prog Tryd.f3 (OpenSpec.ofChange Rows.linePartsSpec) false w args) (Rows.linePartsSpec.post enc Tryd.prog Tryd.f3 false true false false) := by
  refine handed_tied (C := Tryd.checked) own started (by kernel_rfl) Tryd.func3
    (ChangeSpec.witness_shaped (enc := enc) (C := Tryd.checked) (os := os) (X := fun w _ => laidMetH Tryd.prog Rows.linePartsRow.laid w) false (World.laidAll Tryd.prog os Rows.linePartsRow.laid) #[.string ⟨#[]⟩, .string ⟨#[]⟩] 8 (World.laidAll_os _ _ _)
      (World.shaped_of_ZipB (by kernel_rfl) (by kernel_rfl)) (by kernel_rfl) (by kernel_rfl) (by kernel_rfl)
      (by rw [MakeChecks.laidMetH_plain _ _ _ (by kernel_rfl)]; exact laidMet_laidAll _ (by kernel_rfl) (by kernel_rfl))) ?_
  intro W base args ds gs before hval0 hW0 hsz hL hsh
  have hval : ∀ (j : Nat) t v, Tryd.f3.params[j]? = some t → args[j]? = some v → Value.okWide Tryd.prog W .any base t v := hval0
  have hW := hW0
  obtain ⟨p, q, hA0, _, _, _, _⟩ := hW
  have hA : DataW.TrodAll enc Tryd.prog W 0 (fun _ => true) true Tryd.f3.params.toList args.toList ds p := hA0
  have hG : GlobW W := globW hsh
  have hfin : ∀ W', Below W.heap.size W W' → (∃ d, ds = d) → Rows.linePartsSpec.fn H ds = { results := [.lit (.bool true)], args := ds } → Rows.linePartsSpec.post enc Tryd.prog Tryd.f3 false true false false W args (.bool true) W' :=
    fun W' hb _ hs => law_post laidOut (by kernel_rfl) rfl Tryd.underlying4 rfl hs hW0 hb
--
  obtain ⟨v0, vs0, d0, ds0, p0, q0, hargs, rfl, rfl, h0, r0⟩ := trodAll_cons hA
  obtain ⟨v1, vs1, d1, ds1, p1, q1, rfl, rfl, rfl, h1, r1⟩ := trodAll_cons r0
  obtain ⟨rfl, rfl, rfl⟩ := trodAll_nil r1
  obtain rfl : args = #[v0, v1] := by cases args; simp_all
  obtain ⟨s, rfl, rfl, rfl, hs⟩ := ChangeMaps.open_string Tryd.underlying9 (hval 0 9 _ rfl rfl) h0
  obtain ⟨t, rfl, rfl, rfl, ht⟩ := ChangeMaps.open_string Tryd.underlying9 (hval 1 9 _ rfl rfl) h1
  have zs : s.size ≤ 140737488355328 := Nat.le_trans (sized_string hsz (j := 0) (t := 9) rfl rfl) (by decide)
  have zt : t.size ≤ 140737488355328 := Nat.le_trans (sized_string hsz (j := 1) (t := 9) rfl rfl) (by decide)
  have k0 : Rep W (g0 W) (sv s) (.string s) := by simp only [Rep]
  have k1 : Rep W (g0 W) (sv t) (.string t) := by simp only [Rep]
  refine (law_calls (walk (h := []) zs zt) hG (repL1 k0 (repL1 k1 repL0))).mono fun e W' ⟨he, hb⟩ => ?_
  subst he
  exact ⟨_, rfl, hfin W' hb ⟨_, rfl⟩ rfl⟩

theorem row : Rows.LinePartsSaid :=
  OpenClaim.holds_of_wide 3 Tryd.f3 rfl rfl rfl rfl rfl rfl rfl ⟨rfl, rfl, rfl, rfl, rfl⟩ rfl rfl rfl rfl rfl (by kernel_rfl) Tryd.func3 (by kernel_rfl)
    (of_decide_eq_true (by kernel_rfl)) (by unfold Func.isWrapper; first | (rw [if_pos (by decide +kernel)]; kernel_rfl) | (rw [if_neg (by decide +kernel)]; exact ⟨rfl, rfl⟩))
    (fun os started H enc _ => lifted os started H enc)
theorem proved : Rows.LinePartsCardSaid :=
  Claim7.holds_tied_plain_at .later [] Rows.linePartsCard.laidKinds Rows.linePartsCard.laidTests Rows.linePartsCard.stood.harness Rows.linePartsCard.stood.looks
    row (fun _ h => by cases h) (by kernel_rfl) (fun _ h => by cases h) lineParts_row_tie rfl ⟨rfl, rfl⟩ (by kernel_rfl) rfl
    (fun f fn hf hfn => by
      obtain rfl : f = 3 := Option.some.inj ((show Tryd.prog.funcNamed "dateline/datelinelaw.LineParts" = some 3 by kernel_rfl).symm.trans hf) |>.symm
      obtain rfl : fn = Tryd.f3 := (Option.some.inj (Tryd.func3.symm.trans hfn)).symm
      exact ⟨by kernel_rfl, fun j t ht => by
        have hm : t ∈ Tryd.f3.params.toList := Array.mem_toList_iff.2 (Array.mem_of_getElem? ht)
        have hall : (Tryd.f3.params.toList.all fun u => !Tryd.prog.wantsStandIn u) = true := by kernel_rfl
        exact (show Tryd.prog.wantsStandIn t = false by simpa using List.all_eq_true.1 hall t hm)⟩)
    (by kernel_rfl)

end Go.Proofs.YtgjchdhdopgkkaaDoor.lineParts
