/-
  Contracts on plain data: the reference's fields of a line, lines of a text, sameness of lines. Conditions: those that each theorem names.
-/
import Derived.Test.YtgjchdhdopgkkaaDoorLineC
set_option linter.unusedVariables false
set_option linter.unusedSimpArgs false
set_option maxRecDepth 100000
namespace Go.Proofs.YtgjchdhdopgkkaaDoor
open Go.Ab
section
theorem LineR_FieldsOf_138 {τ : Operand → AV} {y0 : Operand} {x0_0 : AV} (h0 : cellsV (τ y0) = some [x0_0]) (l0 : [x0_0].all leaf = true) : fillAV τ [(0, 1, y0)] [(.v (.string ⟨#[]⟩))] = some [x0_0] := by
  simp only [fillAV, h0, l0]
  rfl
theorem LineR_tk_1 {a0 : AV} {l : List AV} : (a0 :: l).take 1 = [a0] := rfl
end
/-- datelineref.between -/
def c36 : AC := (.seq (.reg [⟨(some 6), none, (.mv (.const (.bool false)))⟩]) (.seq (.reg [⟨(some 7), none, (.mv (.tmp 0))⟩, ⟨(some 8), none, (.mv (.tmp 1))⟩, ⟨(some 9), none, (.bin .geq (.tmp 7) (.tmp 8))⟩, ⟨(some 10), none, (.mv (.tmp 9))⟩, ⟨(some 11), (some (10, true)), (.mv (.tmp 0))⟩, ⟨(some 12), (some (10, true)), (.mv (.tmp 2))⟩, ⟨(some 13), (some (10, true)), (.bin .leq (.tmp 11) (.tmp 12))⟩, ⟨(some 14), none, (.pick (.tmp 10) (.tmp 13) (.const (.bool false)))⟩, ⟨(some 6), none, (.mv (.tmp 14))⟩]) .ret))
theorem k36 : compF Tryd.prog 36 = some ⟨c36, [(.tmp 6)], 15⟩ := by kernel_rfl
theorem i36 {a0 a1 a2 : AV} {h : AH} {R : AE → Prop} (hw : ∀ n, h.length = n → (∀ e ∈ h, e.lt n = true) → AV.ltL n [a0, a1, a2] = true → AV.bdL [a0, a1, a2] → aw Tryd.prog n c36 (retA [(.tmp 6)] fun x h' => ∃ z, h' = h ++ z ∧ x.lt n = true ∧ R x) [a0, a1, a2, .any, .any, .any, .any, .any, .any, .any, .any, .any, .any, .any, .any] (h ++ [])) : ACalls Tryd.prog 36 [a0, a1, a2] h fun x h' => h' = h ∧ R x := ACalls.into k36 rfl hw
theorem w36 {a0 a1 a2 : AV} {h : AH} {res : AV} (hw : ∀ n, h.length = n → (∀ e ∈ h, e.lt n = true) → AV.ltL n [a0, a1, a2] = true → AV.bdL [a0, a1, a2] → aw Tryd.prog n c36 (retA [(.tmp 6)] fun x h' => ∃ z, h' = h ++ z ∧ x.lt n = true ∧ ∃ c, x = .ret c ∧ Wk c res) [a0, a1, a2, .any, .any, .any, .any, .any, .any, .any, .any, .any, .any, .any, .any] (h ++ [])) : ACalls Tryd.prog 36 [a0, a1, a2] h fun x h' => h' = h ∧ x = .ret res := ACalls.weak (ACalls.into k36 rfl hw)
theorem n36 {a0 a1 a2 : AV} {h : AH} {R : AE → AH → Prop} (hw : ∀ n, h.length = n → (∀ e ∈ h, e.lt n = true) → AV.ltL n [a0, a1, a2] = true → AV.bdL [a0, a1, a2] → aw Tryd.prog n c36 (retA [(.tmp 6)] R) [a0, a1, a2, .any, .any, .any, .any, .any, .any, .any, .any, .any, .any, .any, .any] (h ++ [])) : ACalls Tryd.prog 36 [a0, a1, a2] h R := ACalls.intoN k36 rfl hw
theorem j36 {a0 a1 a2 : AV} {h : AH} {R : AE → AH → Prop} (hw : ∀ n, h.length = n → (∀ e ∈ h, e.lt n = true) → AV.ltL n [a0, a1, a2] = true → AV.bdL [a0, a1, a2] → aw Tryd.prog n c36 (retA [(.tmp 6)] fun x h' => ∃ y z, h' = y ++ z ∧ y.length = n ∧ (∀ e ∈ y, e.lt n = true) ∧ x.lt n = true ∧ R x y) [a0, a1, a2, .any, .any, .any, .any, .any, .any, .any, .any, .any, .any, .any, .any] (h ++ [])) : ACalls Tryd.prog 36 [a0, a1, a2] h R := ACalls.intoG k36 rfl hw
/-- datelineref.isBlank -/
def c17 : AC := (.seq (.reg [⟨(some 2), none, (.mv (.const (.bool false)))⟩]) (.seq (.reg [⟨(some 3), none, (.mv (.tmp 0))⟩, ⟨(some 4), none, (.bin .eql (.tmp 3) (.const (.int .u8 32)))⟩, ⟨(some 5), none, (.mv (.tmp 4))⟩, ⟨(some 6), (some (5, false)), (.mv (.tmp 0))⟩, ⟨(some 7), (some (5, false)), (.bin .eql (.tmp 6) (.const (.int .u8 9)))⟩, ⟨(some 8), none, (.pick (.tmp 5) (.const (.bool true)) (.tmp 7))⟩, ⟨(some 2), none, (.mv (.tmp 8))⟩]) .ret))
theorem k17 : compF Tryd.prog 17 = some ⟨c17, [(.tmp 2)], 9⟩ := by kernel_rfl
theorem i17 {a0 : AV} {h : AH} {R : AE → Prop} (hw : ∀ n, h.length = n → (∀ e ∈ h, e.lt n = true) → AV.ltL n [a0] = true → AV.bdL [a0] → aw Tryd.prog n c17 (retA [(.tmp 2)] fun x h' => ∃ z, h' = h ++ z ∧ x.lt n = true ∧ R x) [a0, .any, .any, .any, .any, .any, .any, .any, .any] (h ++ [])) : ACalls Tryd.prog 17 [a0] h fun x h' => h' = h ∧ R x := ACalls.into k17 rfl hw
theorem w17 {a0 : AV} {h : AH} {res : AV} (hw : ∀ n, h.length = n → (∀ e ∈ h, e.lt n = true) → AV.ltL n [a0] = true → AV.bdL [a0] → aw Tryd.prog n c17 (retA [(.tmp 2)] fun x h' => ∃ z, h' = h ++ z ∧ x.lt n = true ∧ ∃ c, x = .ret c ∧ Wk c res) [a0, .any, .any, .any, .any, .any, .any, .any, .any] (h ++ [])) : ACalls Tryd.prog 17 [a0] h fun x h' => h' = h ∧ x = .ret res := ACalls.weak (ACalls.into k17 rfl hw)
theorem n17 {a0 : AV} {h : AH} {R : AE → AH → Prop} (hw : ∀ n, h.length = n → (∀ e ∈ h, e.lt n = true) → AV.ltL n [a0] = true → AV.bdL [a0] → aw Tryd.prog n c17 (retA [(.tmp 2)] R) [a0, .any, .any, .any, .any, .any, .any, .any, .any] (h ++ [])) : ACalls Tryd.prog 17 [a0] h R := ACalls.intoN k17 rfl hw
theorem j17 {a0 : AV} {h : AH} {R : AE → AH → Prop} (hw : ∀ n, h.length = n → (∀ e ∈ h, e.lt n = true) → AV.ltL n [a0] = true → AV.bdL [a0] → aw Tryd.prog n c17 (retA [(.tmp 2)] fun x h' => ∃ y z, h' = y ++ z ∧ y.length = n ∧ (∀ e ∈ y, e.lt n = true) ∧ x.lt n = true ∧ R x y) [a0, .any, .any, .any, .any, .any, .any, .any, .any] (h ++ [])) : ACalls Tryd.prog 17 [a0] h R := ACalls.intoG k17 rfl hw
/-- datelineref.isPlain -/
def c25 : AC := (.seq (.reg [⟨(some 2), none, (.mv (.const (.bool false)))⟩]) (.seq (.reg [⟨(some 3), none, (.mv (.tmp 0))⟩, ⟨(some 4), none, (.cvi .i64 (.tmp 3))⟩, ⟨(some 5), none, (.call (.func 36) [(.tmp 4), (.const (.int .i64 32)), (.const (.int .i64 126))])⟩, ⟨(some 6), none, (.mv (.tmp 5))⟩, ⟨(some 7), (some (6, false)), (.mv (.tmp 0))⟩, ⟨(some 8), (some (6, false)), (.bin .eql (.tmp 7) (.const (.int .u8 9)))⟩, ⟨(some 9), none, (.pick (.tmp 6) (.const (.bool true)) (.tmp 8))⟩, ⟨(some 2), none, (.mv (.tmp 9))⟩]) .ret))
theorem k25 : compF Tryd.prog 25 = some ⟨c25, [(.tmp 2)], 10⟩ := by kernel_rfl
theorem i25 {a0 : AV} {h : AH} {R : AE → Prop} (hw : ∀ n, h.length = n → (∀ e ∈ h, e.lt n = true) → AV.ltL n [a0] = true → AV.bdL [a0] → aw Tryd.prog n c25 (retA [(.tmp 2)] fun x h' => ∃ z, h' = h ++ z ∧ x.lt n = true ∧ R x) [a0, .any, .any, .any, .any, .any, .any, .any, .any, .any] (h ++ [])) : ACalls Tryd.prog 25 [a0] h fun x h' => h' = h ∧ R x := ACalls.into k25 rfl hw
theorem w25 {a0 : AV} {h : AH} {res : AV} (hw : ∀ n, h.length = n → (∀ e ∈ h, e.lt n = true) → AV.ltL n [a0] = true → AV.bdL [a0] → aw Tryd.prog n c25 (retA [(.tmp 2)] fun x h' => ∃ z, h' = h ++ z ∧ x.lt n = true ∧ ∃ c, x = .ret c ∧ Wk c res) [a0, .any, .any, .any, .any, .any, .any, .any, .any, .any] (h ++ [])) : ACalls Tryd.prog 25 [a0] h fun x h' => h' = h ∧ x = .ret res := ACalls.weak (ACalls.into k25 rfl hw)
theorem n25 {a0 : AV} {h : AH} {R : AE → AH → Prop} (hw : ∀ n, h.length = n → (∀ e ∈ h, e.lt n = true) → AV.ltL n [a0] = true → AV.bdL [a0] → aw Tryd.prog n c25 (retA [(.tmp 2)] R) [a0, .any, .any, .any, .any, .any, .any, .any, .any, .any] (h ++ [])) : ACalls Tryd.prog 25 [a0] h R := ACalls.intoN k25 rfl hw
theorem j25 {a0 : AV} {h : AH} {R : AE → AH → Prop} (hw : ∀ n, h.length = n → (∀ e ∈ h, e.lt n = true) → AV.ltL n [a0] = true → AV.bdL [a0] → aw Tryd.prog n c25 (retA [(.tmp 2)] fun x h' => ∃ y z, h' = y ++ z ∧ y.length = n ∧ (∀ e ∈ y, e.lt n = true) ∧ x.lt n = true ∧ R x y) [a0, .any, .any, .any, .any, .any, .any, .any, .any, .any] (h ++ [])) : ACalls Tryd.prog 25 [a0] h R := ACalls.intoG k25 rfl hw
/-- datelineref.FieldsOf -/
def c16 : AC := (.seq (.reg [⟨(some 2), none, (.mv (.const (.slice none 0 0)))⟩, ⟨(some 3), none, (.mv (.const (.int .i64 0)))⟩]) (.seq (.reg [⟨(some 4), none, (.mv (.const (.slice none 0 0)))⟩]) (.seq (.reg [⟨(some 5), none, (.mv (.const (.int .i64 0)))⟩]) (.block 0 (.loop (.block 1 (.seq (.block 2 (.loop (.seq (.seq (.reg [⟨(some 7), none, (.mv (.tmp 5))⟩, ⟨(some 8), none, (.mv (.tmp 0))⟩, ⟨(some 9), none, (.len true (.tmp 8))⟩, ⟨(some 10), none, (.bin .lss (.tmp 7) (.tmp 9))⟩, ⟨(some 11), none, (.mv (.tmp 10))⟩, ⟨(some 12), (some (11, true)), (.mv (.tmp 0))⟩, ⟨(some 13), (some (11, true)), (.mv (.tmp 5))⟩, ⟨(some 14), (some (11, true)), (.ix (.tmp 12) (.tmp 13))⟩, ⟨(some 15), (some (11, true)), (.call (.func 17) [(.tmp 14)])⟩, ⟨(some 16), none, (.pick (.tmp 11) (.tmp 15) (.const (.bool false)))⟩]) (.cond (.tmp 16) .skip (.exit 2))) (.block 3 (.reg [⟨(some 17), none, (.mv (.tmp 5))⟩, ⟨(some 18), none, (.bin .add (.tmp 17) (.const (.int .i64 1)))⟩, ⟨(some 5), none, (.mv (.tmp 18))⟩]))))) (.seq (.seq (.reg [⟨(some 19), none, (.mv (.tmp 5))⟩, ⟨(some 20), none, (.mv (.tmp 0))⟩, ⟨(some 21), none, (.len true (.tmp 20))⟩, ⟨(some 22), none, (.bin .eql (.tmp 19) (.tmp 21))⟩, ⟨(some 23), none, (.mv (.tmp 22))⟩, ⟨(some 24), (some (23, false)), (.mv (.tmp 0))⟩, ⟨(some 25), (some (23, false)), (.mv (.tmp 5))⟩, ⟨(some 26), (some (23, false)), (.ix (.tmp 24) (.tmp 25))⟩, ⟨(some 27), (some (23, false)), (.bin .eql (.tmp 26) (.const (.int .u8 35)))⟩, ⟨(some 28), none, (.pick (.tmp 23) (.const (.bool true)) (.tmp 27))⟩]) (.cond (.tmp 28) (.seq (.reg [⟨(some 29), none, (.mv (.tmp 4))⟩, ⟨(some 2), none, (.mv (.tmp 29))⟩, ⟨(some 3), none, (.mv (.const (.int .i64 0)))⟩]) .ret) .skip)) (.seq (.reg [⟨(some 6), none, (.mv (.const (.string ⟨#[]⟩)))⟩]) (.seq (.seq (.reg [⟨(some 30), none, (.mv (.tmp 0))⟩, ⟨(some 31), none, (.mv (.tmp 5))⟩, ⟨(some 32), none, (.ix (.tmp 30) (.tmp 31))⟩, ⟨(some 33), none, (.bin .eql (.tmp 32) (.const (.int .u8 34)))⟩]) (.cond (.tmp 33) (.seq (.reg [⟨(some 34), none, (.mv (.tmp 5))⟩, ⟨(some 35), none, (.bin .add (.tmp 34) (.const (.int .i64 1)))⟩, ⟨(some 5), none, (.mv (.tmp 35))⟩]) (.seq (.block 4 (.loop (.seq (.seq (.reg [⟨(some 36), none, (.mv (.tmp 5))⟩, ⟨(some 37), none, (.mv (.tmp 0))⟩, ⟨(some 38), none, (.len true (.tmp 37))⟩, ⟨(some 39), none, (.bin .lss (.tmp 36) (.tmp 38))⟩, ⟨(some 40), none, (.mv (.tmp 39))⟩, ⟨(some 41), (some (40, true)), (.mv (.tmp 0))⟩, ⟨(some 42), (some (40, true)), (.mv (.tmp 5))⟩, ⟨(some 43), (some (40, true)), (.ix (.tmp 41) (.tmp 42))⟩, ⟨(some 44), (some (40, true)), (.bin .neq (.tmp 43) (.const (.int .u8 34)))⟩, ⟨(some 45), none, (.pick (.tmp 40) (.tmp 44) (.const (.bool false)))⟩]) (.cond (.tmp 45) .skip (.exit 4))) (.block 5 (.seq (.seq (.reg [⟨(some 46), none, (.mv (.tmp 0))⟩, ⟨(some 47), none, (.mv (.tmp 5))⟩, ⟨(some 48), none, (.ix (.tmp 46) (.tmp 47))⟩, ⟨(some 49), none, (.call (.func 25) [(.tmp 48)])⟩, ⟨(some 50), none, (.un .not (.tmp 49))⟩]) (.cond (.tmp 50) (.seq (.reg [⟨(some 2), none, (.mv (.const (.slice none 0 0)))⟩, ⟨(some 3), none, (.mv (.const (.int .i64 1)))⟩]) .ret) .skip)) (.seq (.reg [⟨(some 51), none, (.mv (.tmp 6))⟩, ⟨(some 52), none, (.mv (.tmp 0))⟩, ⟨(some 53), none, (.mv (.tmp 5))⟩, ⟨(some 54), none, (.mv (.tmp 5))⟩, ⟨(some 55), none, (.bin .add (.tmp 54) (.const (.int .i64 1)))⟩, ⟨(some 56), none, (.sls (.tmp 52) (some (.tmp 53)) (some (.tmp 55)))⟩, ⟨(some 57), none, (.bin .add (.tmp 51) (.tmp 56))⟩, ⟨(some 6), none, (.mv (.tmp 57))⟩]) (.reg [⟨(some 58), none, (.mv (.tmp 5))⟩, ⟨(some 59), none, (.bin .add (.tmp 58) (.const (.int .i64 1)))⟩, ⟨(some 5), none, (.mv (.tmp 59))⟩]))))))) (.seq (.seq (.reg [⟨(some 60), none, (.mv (.tmp 5))⟩, ⟨(some 61), none, (.mv (.tmp 0))⟩, ⟨(some 62), none, (.len true (.tmp 61))⟩, ⟨(some 63), none, (.bin .eql (.tmp 60) (.tmp 62))⟩]) (.cond (.tmp 63) (.seq (.reg [⟨(some 2), none, (.mv (.const (.slice none 0 0)))⟩, ⟨(some 3), none, (.mv (.const (.int .i64 1)))⟩]) .ret) .skip)) (.seq (.reg [⟨(some 64), none, (.mv (.tmp 5))⟩, ⟨(some 65), none, (.bin .add (.tmp 64) (.const (.int .i64 1)))⟩, ⟨(some 5), none, (.mv (.tmp 65))⟩]) (.seq (.reg [⟨(some 66), none, (.mv (.tmp 5))⟩, ⟨(some 67), none, (.mv (.tmp 0))⟩, ⟨(some 68), none, (.len true (.tmp 67))⟩, ⟨(some 69), none, (.bin .lss (.tmp 66) (.tmp 68))⟩, ⟨(some 70), none, (.mv (.tmp 69))⟩, ⟨(some 71), (some (70, true)), (.mv (.tmp 0))⟩, ⟨(some 72), (some (70, true)), (.mv (.tmp 5))⟩, ⟨(some 73), (some (70, true)), (.ix (.tmp 71) (.tmp 72))⟩, ⟨(some 74), (some (70, true)), (.call (.func 17) [(.tmp 73)])⟩, ⟨(some 75), (some (70, true)), (.un .not (.tmp 74))⟩, ⟨(some 76), none, (.pick (.tmp 70) (.tmp 75) (.const (.bool false)))⟩, ⟨(some 77), none, (.mv (.tmp 76))⟩, ⟨(some 78), (some (77, true)), (.mv (.tmp 0))⟩, ⟨(some 79), (some (77, true)), (.mv (.tmp 5))⟩, ⟨(some 80), (some (77, true)), (.ix (.tmp 78) (.tmp 79))⟩, ⟨(some 81), (some (77, true)), (.bin .neq (.tmp 80) (.const (.int .u8 35)))⟩, ⟨(some 82), none, (.pick (.tmp 77) (.tmp 81) (.const (.bool false)))⟩]) (.cond (.tmp 82) (.seq (.reg [⟨(some 2), none, (.mv (.const (.slice none 0 0)))⟩, ⟨(some 3), none, (.mv (.const (.int .i64 1)))⟩]) .ret) .skip)))))) (.block 6 (.loop (.seq (.seq (.reg [⟨(some 83), none, (.mv (.tmp 5))⟩, ⟨(some 84), none, (.mv (.tmp 0))⟩, ⟨(some 85), none, (.len true (.tmp 84))⟩, ⟨(some 86), none, (.bin .lss (.tmp 83) (.tmp 85))⟩, ⟨(some 87), none, (.mv (.tmp 86))⟩, ⟨(some 88), (some (87, true)), (.mv (.tmp 0))⟩, ⟨(some 89), (some (87, true)), (.mv (.tmp 5))⟩, ⟨(some 90), (some (87, true)), (.ix (.tmp 88) (.tmp 89))⟩, ⟨(some 91), (some (87, true)), (.call (.func 17) [(.tmp 90)])⟩, ⟨(some 92), (some (87, true)), (.un .not (.tmp 91))⟩, ⟨(some 93), none, (.pick (.tmp 87) (.tmp 92) (.const (.bool false)))⟩, ⟨(some 94), none, (.mv (.tmp 93))⟩, ⟨(some 95), (some (94, true)), (.mv (.tmp 0))⟩, ⟨(some 96), (some (94, true)), (.mv (.tmp 5))⟩, ⟨(some 97), (some (94, true)), (.ix (.tmp 95) (.tmp 96))⟩, ⟨(some 98), (some (94, true)), (.bin .neq (.tmp 97) (.const (.int .u8 35)))⟩, ⟨(some 99), none, (.pick (.tmp 94) (.tmp 98) (.const (.bool false)))⟩]) (.cond (.tmp 99) .skip (.exit 6))) (.block 7 (.seq (.seq (.reg [⟨(some 100), none, (.mv (.tmp 0))⟩, ⟨(some 101), none, (.mv (.tmp 5))⟩, ⟨(some 102), none, (.ix (.tmp 100) (.tmp 101))⟩, ⟨(some 103), none, (.call (.func 25) [(.tmp 102)])⟩, ⟨(some 104), none, (.un .not (.tmp 103))⟩, ⟨(some 105), none, (.mv (.tmp 104))⟩, ⟨(some 106), (some (105, false)), (.mv (.tmp 0))⟩, ⟨(some 107), (some (105, false)), (.mv (.tmp 5))⟩, ⟨(some 108), (some (105, false)), (.ix (.tmp 106) (.tmp 107))⟩, ⟨(some 109), (some (105, false)), (.bin .eql (.tmp 108) (.const (.int .u8 34)))⟩, ⟨(some 110), none, (.pick (.tmp 105) (.const (.bool true)) (.tmp 109))⟩]) (.cond (.tmp 110) (.seq (.reg [⟨(some 2), none, (.mv (.const (.slice none 0 0)))⟩, ⟨(some 3), none, (.mv (.const (.int .i64 1)))⟩]) .ret) .skip)) (.seq (.reg [⟨(some 111), none, (.mv (.tmp 6))⟩, ⟨(some 112), none, (.mv (.tmp 0))⟩, ⟨(some 113), none, (.mv (.tmp 5))⟩, ⟨(some 114), none, (.mv (.tmp 5))⟩, ⟨(some 115), none, (.bin .add (.tmp 114) (.const (.int .i64 1)))⟩, ⟨(some 116), none, (.sls (.tmp 112) (some (.tmp 113)) (some (.tmp 115)))⟩, ⟨(some 117), none, (.bin .add (.tmp 111) (.tmp 116))⟩, ⟨(some 6), none, (.mv (.tmp 117))⟩]) (.reg [⟨(some 118), none, (.mv (.tmp 5))⟩, ⟨(some 119), none, (.bin .add (.tmp 118) (.const (.int .i64 1)))⟩, ⟨(some 5), none, (.mv (.tmp 119))⟩]))))))))) (.seq (.reg [⟨(some 120), none, (.mv (.tmp 4))⟩, ⟨(some 121), none, (.mv (.tmp 6))⟩, ⟨(some 122), none, (.lit 9 1 1 [(.v (.string ⟨#[]⟩))] [(0, (1, (.tmp 121)))])⟩, ⟨(some 123), none, (.app 9 1 16 (.tmp 120) (.tmp 122))⟩, ⟨(some 4), none, (.mv (.tmp 123))⟩]) (.seq (.reg [⟨(some 124), none, (.mv (.tmp 6))⟩, ⟨(some 125), none, (.len true (.tmp 124))⟩, ⟨(some 126), none, (.bin .gtr (.tmp 125) (.const (.int .i64 24)))⟩, ⟨(some 127), none, (.mv (.tmp 126))⟩, ⟨(some 128), (some (127, false)), (.mv (.tmp 4))⟩, ⟨(some 129), (some (127, false)), (.len false (.tmp 128))⟩, ⟨(some 130), (some (127, false)), (.bin .gtr (.tmp 129) (.const (.int .i64 12)))⟩, ⟨(some 131), none, (.pick (.tmp 127) (.const (.bool true)) (.tmp 130))⟩]) (.cond (.tmp 131) (.seq (.reg [⟨(some 2), none, (.mv (.const (.slice none 0 0)))⟩, ⟨(some 3), none, (.mv (.const (.int .i64 2)))⟩]) .ret) .skip)))))))))))))
theorem k16 : compF Tryd.prog 16 = some ⟨c16, [(.tmp 2), (.tmp 3)], 132⟩ := by kernel_rfl
theorem i16 {a0 : AV} {h : AH} {R : AE → Prop} (hw : ∀ n, h.length = n → (∀ e ∈ h, e.lt n = true) → AV.ltL n [a0] = true → AV.bdL [a0] → aw Tryd.prog n c16 (retA [(.tmp 2), (.tmp 3)] fun x h' => ∃ z, h' = h ++ z ∧ x.lt n = true ∧ R x) [a0, .any, .any, .any, .any, .any, .any, .any, .any, .any, .any, .any, .any, .any, .any, .any, .any, .any, .any, .any, .any, .any, .any, .any, .any, .any, .any, .any, .any, .any, .any, .any, .any, .any, .any, .any, .any, .any, .any, .any, .any, .any, .any, .any, .any, .any, .any, .any, .any, .any, .any, .any, .any, .any, .any, .any, .any, .any, .any, .any, .any, .any, .any, .any, .any, .any, .any, .any, .any, .any, .any, .any, .any, .any, .any, .any, .any, .any, .any, .any, .any, .any, .any, .any, .any, .any, .any, .any, .any, .any, .any, .any, .any, .any, .any, .any, .any, .any, .any, .any, .any, .any, .any, .any, .any, .any, .any, .any, .any, .any, .any, .any, .any, .any, .any, .any, .any, .any, .any, .any, .any, .any, .any, .any, .any, .any, .any, .any, .any, .any, .any, .any] (h ++ [])) : ACalls Tryd.prog 16 [a0] h fun x h' => h' = h ∧ R x := ACalls.into k16 rfl hw
theorem w16 {a0 : AV} {h : AH} {res : AV} (hw : ∀ n, h.length = n → (∀ e ∈ h, e.lt n = true) → AV.ltL n [a0] = true → AV.bdL [a0] → aw Tryd.prog n c16 (retA [(.tmp 2), (.tmp 3)] fun x h' => ∃ z, h' = h ++ z ∧ x.lt n = true ∧ ∃ c, x = .ret c ∧ Wk c res) [a0, .any, .any, .any, .any, .any, .any, .any, .any, .any, .any, .any, .any, .any, .any, .any, .any, .any, .any, .any, .any, .any, .any, .any, .any, .any, .any, .any, .any, .any, .any, .any, .any, .any, .any, .any, .any, .any, .any, .any, .any, .any, .any, .any, .any, .any, .any, .any, .any, .any, .any, .any, .any, .any, .any, .any, .any, .any, .any, .any, .any, .any, .any, .any, .any, .any, .any, .any, .any, .any, .any, .any, .any, .any, .any, .any, .any, .any, .any, .any, .any, .any, .any, .any, .any, .any, .any, .any, .any, .any, .any, .any, .any, .any, .any, .any, .any, .any, .any, .any, .any, .any, .any, .any, .any, .any, .any, .any, .any, .any, .any, .any, .any, .any, .any, .any, .any, .any, .any, .any, .any, .any, .any, .any, .any, .any, .any, .any, .any, .any, .any, .any] (h ++ [])) : ACalls Tryd.prog 16 [a0] h fun x h' => h' = h ∧ x = .ret res := ACalls.weak (ACalls.into k16 rfl hw)
theorem n16 {a0 : AV} {h : AH} {R : AE → AH → Prop} (hw : ∀ n, h.length = n → (∀ e ∈ h, e.lt n = true) → AV.ltL n [a0] = true → AV.bdL [a0] → aw Tryd.prog n c16 (retA [(.tmp 2), (.tmp 3)] R) [a0, .any, .any, .any, .any, .any, .any, .any, .any, .any, .any, .any, .any, .any, .any, .any, .any, .any, .any, .any, .any, .any, .any, .any, .any, .any, .any, .any, .any, .any, .any, .any, .any, .any, .any, .any, .any, .any, .any, .any, .any, .any, .any, .any, .any, .any, .any, .any, .any, .any, .any, .any, .any, .any, .any, .any, .any, .any, .any, .any, .any, .any, .any, .any, .any, .any, .any, .any, .any, .any, .any, .any, .any, .any, .any, .any, .any, .any, .any, .any, .any, .any, .any, .any, .any, .any, .any, .any, .any, .any, .any, .any, .any, .any, .any, .any, .any, .any, .any, .any, .any, .any, .any, .any, .any, .any, .any, .any, .any, .any, .any, .any, .any, .any, .any, .any, .any, .any, .any, .any, .any, .any, .any, .any, .any, .any, .any, .any, .any, .any, .any, .any] (h ++ [])) : ACalls Tryd.prog 16 [a0] h R := ACalls.intoN k16 rfl hw
theorem j16 {a0 : AV} {h : AH} {R : AE → AH → Prop} (hw : ∀ n, h.length = n → (∀ e ∈ h, e.lt n = true) → AV.ltL n [a0] = true → AV.bdL [a0] → aw Tryd.prog n c16 (retA [(.tmp 2), (.tmp 3)] fun x h' => ∃ y z, h' = y ++ z ∧ y.length = n ∧ (∀ e ∈ y, e.lt n = true) ∧ x.lt n = true ∧ R x y) [a0, .any, .any, .any, .any, .any, .any, .any, .any, .any, .any, .any, .any, .any, .any, .any, .any, .any, .any, .any, .any, .any, .any, .any, .any, .any, .any, .any, .any, .any, .any, .any, .any, .any, .any, .any, .any, .any, .any, .any, .any, .any, .any, .any, .any, .any, .any, .any, .any, .any, .any, .any, .any, .any, .any, .any, .any, .any, .any, .any, .any, .any, .any, .any, .any, .any, .any, .any, .any, .any, .any, .any, .any, .any, .any, .any, .any, .any, .any, .any, .any, .any, .any, .any, .any, .any, .any, .any, .any, .any, .any, .any, .any, .any, .any, .any, .any, .any, .any, .any, .any, .any, .any, .any, .any, .any, .any, .any, .any, .any, .any, .any, .any, .any, .any, .any, .any, .any, .any, .any, .any, .any, .any, .any, .any, .any, .any, .any, .any, .any, .any, .any] (h ++ [])) : ACalls Tryd.prog 16 [a0] h R := ACalls.intoG k16 rfl hw
theorem rlbetween_a {n a b : Int} {h : AH} : ACalls Tryd.prog 36 [iv n, iv a, iv b] h fun x h' => h' = h ∧ x = .ret (bv (wi n a b)) := by
  refine i36 ?_
  intro N hn hlt hlA hbd
  try simp only [AV.bdL, AV.bd, and_true, true_and] at hbd
  refine w_seq ?_
  refine w_reg ?_
  refine s_val rfl (v_mv lkb) pt6 ?_
  refine s_nil ?_
  refine n_seq ?_
  refine w_seq ?_
  refine w_reg ?_
  refine s_val rfl (v_mv lk0) pt7 ?_
  refine s_val rfl (v_mv lk1) pt8 ?_
  refine s_val rfl (v_geq lk7 lk8) pt9 ?_
  refine s_val rfl (v_mv lk9) pt10 ?_
  first | refine s_splitP gt10 pt10 pt10 (fun hg10 => ?_) (fun hg10 => ?_) | refine s_splitB gt10 pt10 pt10 (fun hg10 => ?_) (fun hg10 => ?_)
  · skip
    refine s_do gt10 ?_
    refine s_val rfl (v_mv lk0) pt11 ?_
    refine s_do gt10 ?_
    refine s_val rfl (v_mv lk2) pt12 ?_
    refine s_do gt10 ?_
    refine s_val rfl (v_leq lk11 lk12) pt13 ?_
    refine s_val rfl (v_pickT lk10 lk13) pt14 ?_
    refine s_val rfl (v_mv lk14) pt6 ?_
    refine s_nil ?_
    refine n_seq ?_
    refine w_rets ?_
    refine w_ret (rs1 (rr_t gt6)) ?_
    refine rt (by first | rfl | (simp only [AV.lt, AV.ltL, Ent.lt, List.all_cons, List.all_nil, Bool.and_true, Bool.and_self, decide_true]; done) | (simp [AV.lt, AV.ltL, Ent.lt, *]; done) | (simp [AV.lt, AV.ltL, Ent.lt, *]; omega)) ?_
    refine bvx ?_; unfold wi; rw [Bool.eq_iff_iff]; simp; omega
  · skip
    refine s_no gt10 pt11 ?_
    refine s_no gt10 pt12 ?_
    refine s_no gt10 pt13 ?_
    refine s_val rfl (v_pickF lk10 lkb) pt14 ?_
    refine s_val rfl (v_mv lk14) pt6 ?_
    refine s_nil ?_
    refine n_seq ?_
    refine w_rets ?_
    refine w_ret (rs1 (rr_t gt6)) ?_
    refine rt (by first | rfl | (simp only [AV.lt, AV.ltL, Ent.lt, List.all_cons, List.all_nil, Bool.and_true, Bool.and_self, decide_true]; done) | (simp [AV.lt, AV.ltL, Ent.lt, *]; done) | (simp [AV.lt, AV.ltL, Ent.lt, *]; omega)) ?_
    refine bvx ?_; unfold wi; rw [Bool.eq_iff_iff]; simp; omega
theorem risBlank_a {n : Int} {h : AH} : ACalls Tryd.prog 17 [u8v n] h fun x h' => h' = h ∧ x = .ret (bv (blkN n)) := by
  refine i17 ?_
  intro N hn hlt hlA hbd
  try simp only [AV.bdL, AV.bd, and_true, true_and] at hbd
  refine w_seq ?_
  refine w_reg ?_
  refine s_val rfl (v_mv lkb) pt2 ?_
  refine s_nil ?_
  refine n_seq ?_
  refine w_seq ?_
  refine w_reg ?_
  refine s_val rfl (v_mv lk0) pt3 ?_
  refine s_val rfl (v_eql lk3 lki) pt4 ?_
  refine s_val rfl (v_mv lk4) pt5 ?_
  first | refine s_splitP gt5 pt5 pt5 (fun hg5 => ?_) (fun hg5 => ?_) | refine s_splitB gt5 pt5 pt5 (fun hg5 => ?_) (fun hg5 => ?_)
  · skip
    refine s_no gt5 pt6 ?_
    refine s_no gt5 pt7 ?_
    refine s_val rfl (v_pickT lk5 lkb) pt8 ?_
    refine s_val rfl (v_mv lk8) pt2 ?_
    refine s_nil ?_
    refine n_seq ?_
    refine w_rets ?_
    refine w_ret (rs1 (rr_t gt2)) ?_
    refine rt (by first | rfl | (simp only [AV.lt, AV.ltL, Ent.lt, List.all_cons, List.all_nil, Bool.and_true, Bool.and_self, decide_true]; done) | (simp [AV.lt, AV.ltL, Ent.lt, *]; done) | (simp [AV.lt, AV.ltL, Ent.lt, *]; omega)) ?_
    refine bvx ?_; unfold blkN; simp_all
  · skip
    refine s_do gt5 ?_
    refine s_val rfl (v_mv lk0) pt6 ?_
    refine s_do gt5 ?_
    refine s_val rfl (v_eql lk6 lki) pt7 ?_
    refine s_val rfl (v_pickF lk5 lk7) pt8 ?_
    refine s_val rfl (v_mv lk8) pt2 ?_
    refine s_nil ?_
    refine n_seq ?_
    refine w_rets ?_
    refine w_ret (rs1 (rr_t gt2)) ?_
    refine rt (by first | rfl | (simp only [AV.lt, AV.ltL, Ent.lt, List.all_cons, List.all_nil, Bool.and_true, Bool.and_self, decide_true]; done) | (simp [AV.lt, AV.ltL, Ent.lt, *]; done) | (simp [AV.lt, AV.ltL, Ent.lt, *]; omega)) ?_
    refine bvx ?_; unfold blkN; simp_all
theorem risPlain_a {c : UInt8} {h : AH} : ACalls Tryd.prog 25 [u8v c.toNat] h fun x h' => h' = h ∧ x = .ret (bv (plnN c.toNat)) := by
  have hb := byte_lt c
  refine i25 ?_
  intro N hn hlt hlA hbd
  try simp only [AV.bdL, AV.bd, and_true, true_and] at hbd
  refine w_seq ?_
  refine w_reg ?_
  refine s_val rfl (v_mv lkb) pt2 ?_
  refine s_nil ?_
  refine n_seq ?_
  refine w_seq ?_
  refine w_reg ?_
  refine s_val rfl (v_mv lk0) pt3 ?_
  refine s_val rfl (v_cvi64 lk3 (by omega) (by omega)) pt4 ?_
  refine s_callp (mp1 lk4 (mp1 lki (mp1 lki mp0))) (rlbetween_a) pt5 ?_
  refine s_val rfl (v_mv lk5) pt6 ?_
  refine s_splitB gt6 pt6 pt6 (fun hg6 => ?_) (fun hg6 => ?_)
  · skip
    refine s_no gt6 pt7 ?_
    refine s_no gt6 pt8 ?_
    refine s_val rfl (v_pickT lk6 lkb) pt9 ?_
    refine s_val rfl (v_mv lk9) pt2 ?_
    refine s_nil ?_
    refine n_seq ?_
    refine w_rets ?_
    refine w_ret (rs1 (rr_t gt2)) ?_
    refine rt (by first | rfl | (simp only [AV.lt, AV.ltL, Ent.lt, List.all_cons, List.all_nil, Bool.and_true, Bool.and_self, decide_true]; done) | (simp [AV.lt, AV.ltL, Ent.lt, *]; done) | (simp [AV.lt, AV.ltL, Ent.lt, *]; omega)) ?_
    refine bvx ?_; unfold wi at *; unfold plnN; first | (simp_all; done) | (simp_all; omega)
  · skip
    refine s_do gt6 ?_
    refine s_val rfl (v_mv lk0) pt7 ?_
    refine s_do gt6 ?_
    refine s_val rfl (v_eql lk7 lki) pt8 ?_
    refine s_val rfl (v_pickF lk6 lk8) pt9 ?_
    refine s_val rfl (v_mv lk9) pt2 ?_
    refine s_nil ?_
    refine n_seq ?_
    refine w_rets ?_
    refine w_ret (rs1 (rr_t gt2)) ?_
    refine rt (by first | rfl | (simp only [AV.lt, AV.ltL, Ent.lt, List.all_cons, List.all_nil, Bool.and_true, Bool.and_self, decide_true]; done) | (simp [AV.lt, AV.ltL, Ent.lt, *]; done) | (simp [AV.lt, AV.ltL, Ent.lt, *]; omega)) ?_
    refine bvx ?_; unfold wi at *; unfold plnN; first | (simp_all; done) | (simp_all; omega)
theorem ext_snoc {s : ByteArray} {a n : Nat} (h : a + n < s.size) : bA (((aB s).drop a).take n) ++ s.extract (a + n) (a + n + 1) = bA (((aB s).drop a).take (n + 1)) := by
  rw [bA_ext, bA_app, Nat.add_sub_cancel_left, List.take_add, List.drop_drop]
theorem skipN_end {s : ByteArray} {k : Nat} (h : s.size ≤ k) : skipN ((aB s).drop k) = 0 := by rw [aB_end h]; rfl
theorem skipN_stop {s : ByteArray} {k : Nat} (h : k < s.size) (hp : blkN (byteAt s k).toNat = false) : skipN ((aB s).drop k) = 0 := by
  rw [aB_at h]; simp [skipN, List.takeWhile_cons, hp]
theorem skipN_go {s : ByteArray} {k : Nat} (h : k < s.size) (hp : blkN (byteAt s k).toNat = true) : skipN ((aB s).drop k) = skipN ((aB s).drop (k + 1)) + 1 := by
  rw [aB_at h]; simp [skipN, List.takeWhile_cons, hp]
theorem plnN_34 : plnN 34 = true := by decide
theorem fldP_of {n : Int} (h1 : blkN n = false) (h2 : n ≠ 35) (h3 : n ≠ 34) : fldP n = true := by unfold fldP; simp [h1, h2, h3]
set_option maxHeartbeats 2000000 in
theorem rfieldsOf_a {s : ByteArray} {h : AH} (hz : s.size ≤ 8000) : ACalls Tryd.prog 16 [sv s] h fun x h' => h' = h ∧ x = .ret (.tup [.sl (lineL (aB s)).1.length 1 false (rows strC (lineL (aB s)).1), iv (lineL (aB s)).2]) := by
  refine w16 ?_
  intro N hn hlt hlA hbd
  try simp only [AV.bdL, AV.bd, and_true, true_and] at hbd
  refine w_seq ?_
  refine w_reg ?_
  refine s_val rfl (v_mv lkn) pt2 ?_
  refine s_val rfl (v_mv lki) pt3 ?_
  refine s_nil ?_
  refine n_seq ?_
  refine w_seq ?_
  refine w_reg ?_
  refine s_val rfl (v_mv lkn) pt4 ?_
  refine s_nil ?_
  refine n_seqw (ALe.own0' (st' := 1) (ty := 9) gt4 (hl0 hn) pt4 ha0) ?_
  refine w_seq ?_
  refine w_reg ?_
  refine s_val rfl (v_mv lki) pt5 ?_
  refine s_nil ?_
  refine n_seq ?_
  refine w_block ?_
  refine w_loop (ι := Nat × List ByteArray × Nat × Nat) (fun (x_ : Nat × List ByteArray × Nat × Nat) => match x_ with | ⟨k, fs, v, m⟩ => [(4, .own (N + 0) v fs.length), (5, iv (k : Int)), (2, .any), (3, .any), (6, .any), (7, .any), (8, .any), (9, .any), (10, .any), (11, .any), (12, .any), (13, .any), (14, .any), (15, .any), (16, .any), (17, .any), (18, .any), (19, .any), (20, .any), (21, .any), (22, .any), (23, .any), (24, .any), (25, .any), (26, .any), (27, .any), (28, .any), (29, .any), (30, .any), (31, .any), (32, .any), (33, .any), (34, .any), (35, .any), (36, .any), (37, .any), (38, .any), (39, .any), (40, .any), (41, .any), (42, .any), (43, .any), (44, .any), (45, .any), (46, .any), (47, .any), (48, .any), (49, .any), (50, .any), (51, .any), (52, .any), (53, .any), (54, .any), (55, .any), (56, .any), (57, .any), (58, .any), (59, .any), (60, .any), (61, .any), (62, .any), (63, .any), (64, .any), (65, .any), (66, .any), (67, .any), (68, .any), (69, .any), (70, .any), (71, .any), (72, .any), (73, .any), (74, .any), (75, .any), (76, .any), (77, .any), (78, .any), (79, .any), (80, .any), (81, .any), (82, .any), (83, .any), (84, .any), (85, .any), (86, .any), (87, .any), (88, .any), (89, .any), (90, .any), (91, .any), (92, .any), (93, .any), (94, .any), (95, .any), (96, .any), (97, .any), (98, .any), (99, .any), (100, .any), (101, .any), (102, .any), (103, .any), (104, .any), (105, .any), (106, .any), (107, .any), (108, .any), (109, .any), (110, .any), (111, .any), (112, .any), (113, .any), (114, .any), (115, .any), (116, .any), (117, .any), (118, .any), (119, .any), (120, .any), (121, .any), (122, .any), (123, .any), (124, .any), (125, .any), (126, .any), (127, .any), (128, .any), (129, .any), (130, .any), (131, .any)]) (fun (x_ : Nat × List ByteArray × Nat × Nat) => match x_ with | ⟨k, fs, v, m⟩ => [(0, .mk v 9 1 (rows strC fs))]) (fun (x_ : Nat × List ByteArray × Nat × Nat) => match x_ with | ⟨k, fs, v, m⟩ => k ≤ s.size ∧ fs.length + m = 12 ∧ lineL (aB s) = fldsL (m + 1) fs ((aB s).drop k)) (fun (x_ : Nat × List ByteArray × Nat × Nat) => match x_ with | ⟨k, fs, v, m⟩ => m) (⟨0, [], 0, 12⟩) (by exact ⟨Nat.zero_le _, rfl, rfl⟩) (by try simp only [setsT, setsE, List.set_cons_zero, List.set_cons_succ]; exact ALe.same (wk1 rfl (wk1 rfl (wka (wka (wk1 (by first | rfl | exact ivx (by omega) | (simp; done)) (wk1 (by first | rfl | exact ivx (by omega) | (simp; done)) (wka (wka (wka (wka (wka (wka (wka (wka (wka (wka (wka (wka (wka (wka (wka (wka (wka (wka (wka (wka (wka (wka (wka (wka (wka (wka (wka (wka (wka (wka (wka (wka (wka (wka (wka (wka (wka (wka (wka (wka (wka (wka (wka (wka (wka (wka (wka (wka (wka (wka (wka (wka (wka (wka (wka (wka (wka (wka (wka (wka (wka (wka (wka (wka (wka (wka (wka (wka (wka (wka (wka (wka (wka (wka (wka (wka (wka (wka (wka (wka (wka (wka (wka (wka (wka (wka (wka (wka (wka (wka (wka (wka (wka (wka (wka (wka (wka (wka (wka (wka (wka (wka (wka (wka (wka (wka (wka (wka (wka (wka (wka (wka (wka (wka (wka (wka (wka (wka (wka (wka (wka (wka (wka (wka (wka (wka wk0)))))))))))))))))))))))))))))))))))))))))))))))))))))))))))))))))))))))))))))))))))))))))))))))))))))))))))))))))))))))))))))))))))) rfl) ?_
  rintro ⟨k, fs, v, m⟩ hi1
  try simp only [setsT, setsE, List.set_cons_zero, List.set_cons_succ]
  obtain ⟨hi1, hi2, hi3⟩ := hi1
  rw [fldsL_T, List.drop_drop] at hi3
  refine w_block ?_
  refine w_seqC (ι := Nat) (fun (p : Nat) => [(5, iv (p : Int)), (7, .any), (8, .any), (9, .any), (10, .any), (11, .any), (12, .any), (13, .any), (14, .any), (15, .any), (16, .any), (17, .any), (18, .any)]) (fun (p : Nat) => []) (fun (p : Nat) => p ≤ s.size ∧ lineL (aB s) = fldsT m fs ((aB s).drop p)) ?_ ?_
  · try simp only [setsT, setsE, List.set_cons_zero, List.set_cons_succ]
    refine w_block ?_
    refine w_loop (ι := Nat) (fun (j : Nat) => [(5, iv ((k + j : Nat) : Int)), (7, .any), (8, .any), (9, .any), (10, .any), (11, .any), (12, .any), (13, .any), (14, .any), (15, .any), (16, .any), (17, .any), (18, .any)]) (fun (j : Nat) => []) (fun (j : Nat) => k + j ≤ s.size ∧ skipN ((aB s).drop k) = skipN ((aB s).drop (k + j)) + j) (fun (j : Nat) => s.size - (k + j)) (0) (by exact ⟨hi1, rfl⟩) (by try simp only [setsT, setsE, List.set_cons_zero, List.set_cons_succ]; exact ALe.same (wk1 rfl (wk1 rfl (wk1 rfl (wk1 rfl (wk1 rfl (wk1 (by first | rfl | exact ivx (by omega) | (simp; done)) (wk1 rfl (wka (wka (wka (wka (wka (wka (wka (wka (wka (wka (wka (wka (wk1 rfl (wk1 rfl (wk1 rfl (wk1 rfl (wk1 rfl (wk1 rfl (wk1 rfl (wk1 rfl (wk1 rfl (wk1 rfl (wk1 rfl (wk1 rfl (wk1 rfl (wk1 rfl (wk1 rfl (wk1 rfl (wk1 rfl (wk1 rfl (wk1 rfl (wk1 rfl (wk1 rfl (wk1 rfl (wk1 rfl (wk1 rfl (wk1 rfl (wk1 rfl (wk1 rfl (wk1 rfl (wk1 rfl (wk1 rfl (wk1 rfl (wk1 rfl (wk1 rfl (wk1 rfl (wk1 rfl (wk1 rfl (wk1 rfl (wk1 rfl (wk1 rfl (wk1 rfl (wk1 rfl (wk1 rfl (wk1 rfl (wk1 rfl (wk1 rfl (wk1 rfl (wk1 rfl (wk1 rfl (wk1 rfl (wk1 rfl (wk1 rfl (wk1 rfl (wk1 rfl (wk1 rfl (wk1 rfl (wk1 rfl (wk1 rfl (wk1 rfl (wk1 rfl (wk1 rfl (wk1 rfl (wk1 rfl (wk1 rfl (wk1 rfl (wk1 rfl (wk1 rfl (wk1 rfl (wk1 rfl (wk1 rfl (wk1 rfl (wk1 rfl (wk1 rfl (wk1 rfl (wk1 rfl (wk1 rfl (wk1 rfl (wk1 rfl (wk1 rfl (wk1 rfl (wk1 rfl (wk1 rfl (wk1 rfl (wk1 rfl (wk1 rfl (wk1 rfl (wk1 rfl (wk1 rfl (wk1 rfl (wk1 rfl (wk1 rfl (wk1 rfl (wk1 rfl (wk1 rfl (wk1 rfl (wk1 rfl (wk1 rfl (wk1 rfl (wk1 rfl (wk1 rfl (wk1 rfl (wk1 rfl (wk1 rfl (wk1 rfl (wk1 rfl (wk1 rfl (wk1 rfl (wk1 rfl (wk1 rfl (wk1 rfl (wk1 rfl (wk1 rfl (wk1 rfl (wk1 rfl wk0)))))))))))))))))))))))))))))))))))))))))))))))))))))))))))))))))))))))))))))))))))))))))))))))))))))))))))))))))))))))))))))))))))) rfl) ?_
    rintro j hi2
    try simp only [setsT, setsE, List.set_cons_zero, List.set_cons_succ]
    obtain ⟨hj1, hj2⟩ := hi2
    refine w_seq ?_
    refine w_seq ?_
    refine w_reg ?_
    refine s_val rfl (v_mv lk5) pt7 ?_
    refine s_val rfl (v_mv lk0) pt8 ?_
    refine s_val rfl (v_lenS lk8) pt9 ?_
    refine s_val rfl (v_lss lk7 lk9) pt10 ?_
    refine s_val rfl (v_mv lk10) pt11 ?_
    first | refine s_splitP gt11 pt11 pt11 (fun hg11 => ?_) (fun hg11 => ?_) | refine s_splitB gt11 pt11 pt11 (fun hg11 => ?_) (fun hg11 => ?_)
    · skip
      refine s_do gt11 ?_
      refine s_val rfl (v_mv lk0) pt12 ?_
      refine s_do gt11 ?_
      refine s_val rfl (v_mv lk5) pt13 ?_
      refine s_do gt11 ?_
      refine s_val rfl (v_ix lk12 lk13 (by omega) (by omega)) pt14 ?_
      refine s_do gt11 ?_
      refine s_callp (mp1 lk14 mp0) (risBlank_a) pt15 ?_
      refine s_val rfl (v_pickT lk11 lk15) pt16 ?_
      refine s_nil ?_
      refine n_seq ?_
      refine w_condB lk16 (fun hc1 => ?_) (fun hc1 => ?_)
      · skip
        have hG := skipN_go (s := s) (k := k + j) (by omega) hc1
        rw [hG] at hj2
        refine w_skip ?_
        refine n_seq ?_
        refine w_block ?_
        refine w_reg ?_
        refine s_val rfl (v_mv lk5) pt17 ?_
        refine s_val rfl (v_add lk17 lki (by omega) (by omega)) pt18 ?_
        refine s_val rfl (v_mv lk18) pt5 ?_
        refine s_nil ?_
        refine n_blk ?_
        refine n_thn ?_
        refine LoopTo.mk (j + 1) (by omega) (by (try dsimp only); exact ⟨by omega, by rw [show k + (j + 1) = k + j + 1 from rfl]; omega⟩) (by (try dsimp only); (try simp only [setsT, setsE, List.set_cons_zero, List.set_cons_succ]); exact ALe.same (wk1 rfl (wk1 rfl (wk1 rfl (wk1 rfl (wk1 rfl (wk1 (by first | rfl | exact ivx (by omega) | (simp; done)) (wk1 rfl (wka (wka (wka (wka (wka (wka (wka (wka (wka (wka (wka (wka (wk1 rfl (wk1 rfl (wk1 rfl (wk1 rfl (wk1 rfl (wk1 rfl (wk1 rfl (wk1 rfl (wk1 rfl (wk1 rfl (wk1 rfl (wk1 rfl (wk1 rfl (wk1 rfl (wk1 rfl (wk1 rfl (wk1 rfl (wk1 rfl (wk1 rfl (wk1 rfl (wk1 rfl (wk1 rfl (wk1 rfl (wk1 rfl (wk1 rfl (wk1 rfl (wk1 rfl (wk1 rfl (wk1 rfl (wk1 rfl (wk1 rfl (wk1 rfl (wk1 rfl (wk1 rfl (wk1 rfl (wk1 rfl (wk1 rfl (wk1 rfl (wk1 rfl (wk1 rfl (wk1 rfl (wk1 rfl (wk1 rfl (wk1 rfl (wk1 rfl (wk1 rfl (wk1 rfl (wk1 rfl (wk1 rfl (wk1 rfl (wk1 rfl (wk1 rfl (wk1 rfl (wk1 rfl (wk1 rfl (wk1 rfl (wk1 rfl (wk1 rfl (wk1 rfl (wk1 rfl (wk1 rfl (wk1 rfl (wk1 rfl (wk1 rfl (wk1 rfl (wk1 rfl (wk1 rfl (wk1 rfl (wk1 rfl (wk1 rfl (wk1 rfl (wk1 rfl (wk1 rfl (wk1 rfl (wk1 rfl (wk1 rfl (wk1 rfl (wk1 rfl (wk1 rfl (wk1 rfl (wk1 rfl (wk1 rfl (wk1 rfl (wk1 rfl (wk1 rfl (wk1 rfl (wk1 rfl (wk1 rfl (wk1 rfl (wk1 rfl (wk1 rfl (wk1 rfl (wk1 rfl (wk1 rfl (wk1 rfl (wk1 rfl (wk1 rfl (wk1 rfl (wk1 rfl (wk1 rfl (wk1 rfl (wk1 rfl (wk1 rfl (wk1 rfl (wk1 rfl (wk1 rfl (wk1 rfl (wk1 rfl (wk1 rfl (wk1 rfl (wk1 rfl (wk1 rfl (wk1 rfl wk0)))))))))))))))))))))))))))))))))))))))))))))))))))))))))))))))))))))))))))))))))))))))))))))))))))))))))))))))))))))))))))))))))))) rfl)
      · skip
        have hE := skipN_stop (s := s) (k := k + j) (by omega) hc1
        rw [hE, Nat.zero_add] at hj2
        rw [hj2] at hi3
        refine w_exit ?_
        refine x_thn ?_
        refine x_thn ?_
        refine x_blk ?_
        refine n_thn ?_
        exact ⟨k + j, (by exact ⟨hj1, hi3⟩), (by (try dsimp only); (try simp only [setsT, setsE, List.set_cons_zero, List.set_cons_succ]); exact ALe.same (wk1 rfl (wk1 rfl (wk1 rfl (wk1 rfl (wk1 rfl (wk1 (by first | rfl | exact ivx (by omega) | (simp; done)) (wk1 rfl (wka (wka (wka (wka (wka (wka (wka (wka (wka (wka (wka (wka (wk1 rfl (wk1 rfl (wk1 rfl (wk1 rfl (wk1 rfl (wk1 rfl (wk1 rfl (wk1 rfl (wk1 rfl (wk1 rfl (wk1 rfl (wk1 rfl (wk1 rfl (wk1 rfl (wk1 rfl (wk1 rfl (wk1 rfl (wk1 rfl (wk1 rfl (wk1 rfl (wk1 rfl (wk1 rfl (wk1 rfl (wk1 rfl (wk1 rfl (wk1 rfl (wk1 rfl (wk1 rfl (wk1 rfl (wk1 rfl (wk1 rfl (wk1 rfl (wk1 rfl (wk1 rfl (wk1 rfl (wk1 rfl (wk1 rfl (wk1 rfl (wk1 rfl (wk1 rfl (wk1 rfl (wk1 rfl (wk1 rfl (wk1 rfl (wk1 rfl (wk1 rfl (wk1 rfl (wk1 rfl (wk1 rfl (wk1 rfl (wk1 rfl (wk1 rfl (wk1 rfl (wk1 rfl (wk1 rfl (wk1 rfl (wk1 rfl (wk1 rfl (wk1 rfl (wk1 rfl (wk1 rfl (wk1 rfl (wk1 rfl (wk1 rfl (wk1 rfl (wk1 rfl (wk1 rfl (wk1 rfl (wk1 rfl (wk1 rfl (wk1 rfl (wk1 rfl (wk1 rfl (wk1 rfl (wk1 rfl (wk1 rfl (wk1 rfl (wk1 rfl (wk1 rfl (wk1 rfl (wk1 rfl (wk1 rfl (wk1 rfl (wk1 rfl (wk1 rfl (wk1 rfl (wk1 rfl (wk1 rfl (wk1 rfl (wk1 rfl (wk1 rfl (wk1 rfl (wk1 rfl (wk1 rfl (wk1 rfl (wk1 rfl (wk1 rfl (wk1 rfl (wk1 rfl (wk1 rfl (wk1 rfl (wk1 rfl (wk1 rfl (wk1 rfl (wk1 rfl (wk1 rfl (wk1 rfl (wk1 rfl (wk1 rfl (wk1 rfl (wk1 rfl (wk1 rfl (wk1 rfl wk0)))))))))))))))))))))))))))))))))))))))))))))))))))))))))))))))))))))))))))))))))))))))))))))))))))))))))))))))))))))))))))))))))))) rfl)⟩
    · skip
      have hE := skipN_end (s := s) (k := k + j) (by omega)
      rw [hE, Nat.zero_add] at hj2
      rw [hj2] at hi3
      refine s_no gt11 pt12 ?_
      refine s_no gt11 pt13 ?_
      refine s_no gt11 pt14 ?_
      refine s_no gt11 pt15 ?_
      refine s_val rfl (v_pickF lk11 lkb) pt16 ?_
      refine s_nil ?_
      refine n_seq ?_
      refine w_condF lk16 ?_
      refine w_exit ?_
      refine x_thn ?_
      refine x_thn ?_
      refine x_blk ?_
      refine n_thn ?_
      exact ⟨k + j, (by exact ⟨hj1, hi3⟩), (by (try dsimp only); (try simp only [setsT, setsE, List.set_cons_zero, List.set_cons_succ]); exact ALe.same (wk1 rfl (wk1 rfl (wk1 rfl (wk1 rfl (wk1 rfl (wk1 (by first | rfl | exact ivx (by omega) | (simp; done)) (wk1 rfl (wka (wka (wka (wka (wka (wka (wka (wka (wka (wka (wka (wka (wk1 rfl (wk1 rfl (wk1 rfl (wk1 rfl (wk1 rfl (wk1 rfl (wk1 rfl (wk1 rfl (wk1 rfl (wk1 rfl (wk1 rfl (wk1 rfl (wk1 rfl (wk1 rfl (wk1 rfl (wk1 rfl (wk1 rfl (wk1 rfl (wk1 rfl (wk1 rfl (wk1 rfl (wk1 rfl (wk1 rfl (wk1 rfl (wk1 rfl (wk1 rfl (wk1 rfl (wk1 rfl (wk1 rfl (wk1 rfl (wk1 rfl (wk1 rfl (wk1 rfl (wk1 rfl (wk1 rfl (wk1 rfl (wk1 rfl (wk1 rfl (wk1 rfl (wk1 rfl (wk1 rfl (wk1 rfl (wk1 rfl (wk1 rfl (wk1 rfl (wk1 rfl (wk1 rfl (wk1 rfl (wk1 rfl (wk1 rfl (wk1 rfl (wk1 rfl (wk1 rfl (wk1 rfl (wk1 rfl (wk1 rfl (wk1 rfl (wk1 rfl (wk1 rfl (wk1 rfl (wk1 rfl (wk1 rfl (wk1 rfl (wk1 rfl (wk1 rfl (wk1 rfl (wk1 rfl (wk1 rfl (wk1 rfl (wk1 rfl (wk1 rfl (wk1 rfl (wk1 rfl (wk1 rfl (wk1 rfl (wk1 rfl (wk1 rfl (wk1 rfl (wk1 rfl (wk1 rfl (wk1 rfl (wk1 rfl (wk1 rfl (wk1 rfl (wk1 rfl (wk1 rfl (wk1 rfl (wk1 rfl (wk1 rfl (wk1 rfl (wk1 rfl (wk1 rfl (wk1 rfl (wk1 rfl (wk1 rfl (wk1 rfl (wk1 rfl (wk1 rfl (wk1 rfl (wk1 rfl (wk1 rfl (wk1 rfl (wk1 rfl (wk1 rfl (wk1 rfl (wk1 rfl (wk1 rfl (wk1 rfl (wk1 rfl (wk1 rfl (wk1 rfl (wk1 rfl (wk1 rfl wk0)))))))))))))))))))))))))))))))))))))))))))))))))))))))))))))))))))))))))))))))))))))))))))))))))))))))))))))))))))))))))))))))))))) rfl)⟩
  · rintro p hq6
    try simp only [setsT, setsE, List.set_cons_zero, List.set_cons_succ]
    obtain ⟨hp1, hp2⟩ := hq6
    refine w_seq ?_
    refine w_seq ?_
    refine w_reg ?_
    refine s_val rfl (v_mv lk5) pt19 ?_
    refine s_val rfl (v_mv lk0) pt20 ?_
    refine s_val rfl (v_lenS lk20) pt21 ?_
    refine s_val rfl (v_eql lk19 lk21) pt22 ?_
    refine s_val rfl (v_mv lk22) pt23 ?_
    first | refine s_splitP gt23 pt23 pt23 (fun hg23 => ?_) (fun hg23 => ?_) | refine s_splitB gt23 pt23 pt23 (fun hg23 => ?_) (fun hg23 => ?_)
    · skip
      rw [fldsT_no (by rw [moreL_at]; simp; omega)] at hp2
      refine s_no gt23 pt24 ?_
      refine s_no gt23 pt25 ?_
      refine s_no gt23 pt26 ?_
      refine s_no gt23 pt27 ?_
      refine s_val rfl (v_pickT lk23 lkb) pt28 ?_
      refine s_nil ?_
      refine n_seq ?_
      refine w_condT lk28 ?_
      refine w_seq ?_
      refine w_reg ?_
      refine s_val rfl (v_mv lk4) pt29 ?_
      refine s_val rfl (v_mv lk29) pt2 ?_
      refine s_val rfl (v_mv lki) pt3 ?_
      refine s_nil ?_
      skip
      refine n_seqw (ALe.iceR (hga hn rfl) gt2 (List.take_of_length_le (by rw [rows_len str_len1]; first | exact Nat.le_refl _ | omega)) (by rw [rows_len str_len1]; first | exact Nat.le_refl _ | omega) pt2 (hs0 hn)) ?_
      refine w_rets ?_
      refine r_thn ?_
      refine r_blk ?_
      refine r_thn ?_
      refine r_blk ?_
      refine w_ret (rsn (rm1 (rr_t gt2) (rm1 (rr_t gt3) rm0))) ?_
      refine rtw (by first | rfl | (simp only [AV.lt, AV.ltL, Ent.lt, List.all_cons, List.all_nil, Bool.and_true, Bool.and_self, decide_true, str_lt]; done) | (simp [AV.lt, AV.ltL, Ent.lt, str_lt, *]; done) | (simp [AV.lt, AV.ltL, Ent.lt, str_lt, *]; omega)) ?_
      rw [hp2]; exact Wk.tup (wkw (Wk.refl _) (wk1 rfl wk0))
    · skip
      refine s_do gt23 ?_
      refine s_val rfl (v_mv lk0) pt24 ?_
      refine s_do gt23 ?_
      refine s_val rfl (v_mv lk5) pt25 ?_
      refine s_do gt23 ?_
      refine s_val rfl (v_ix lk24 lk25 (by omega) (by omega)) pt26 ?_
      refine s_do gt23 ?_
      refine s_val rfl (v_eql lk26 lki) pt27 ?_
      refine s_val rfl (v_pickF lk23 lk27) pt28 ?_
      refine s_nil ?_
      refine n_seq ?_
      first | refine w_cond lk28 (fun hc2 => ?_) (fun hc2 => ?_) | refine w_condB lk28 (fun hc2 => ?_) (fun hc2 => ?_)
      · skip
        have hc2' : ((byteAt s p).toNat : Int) = 35 := hc2
        rw [fldsT_no (by rw [moreL_at]; simp [hc2'])] at hp2
        refine w_seq ?_
        refine w_reg ?_
        refine s_val rfl (v_mv lk4) pt29 ?_
        refine s_val rfl (v_mv lk29) pt2 ?_
        refine s_val rfl (v_mv lki) pt3 ?_
        refine s_nil ?_
        skip
        refine n_seqw (ALe.iceR (hga hn rfl) gt2 (List.take_of_length_le (by rw [rows_len str_len1]; first | exact Nat.le_refl _ | omega)) (by rw [rows_len str_len1]; first | exact Nat.le_refl _ | omega) pt2 (hs0 hn)) ?_
        refine w_rets ?_
        refine r_thn ?_
        refine r_blk ?_
        refine r_thn ?_
        refine r_blk ?_
        refine w_ret (rsn (rm1 (rr_t gt2) (rm1 (rr_t gt3) rm0))) ?_
        refine rtw (by first | rfl | (simp only [AV.lt, AV.ltL, Ent.lt, List.all_cons, List.all_nil, Bool.and_true, Bool.and_self, decide_true, str_lt]; done) | (simp [AV.lt, AV.ltL, Ent.lt, str_lt, *]; done) | (simp [AV.lt, AV.ltL, Ent.lt, str_lt, *]; omega)) ?_
        rw [hp2]; exact Wk.tup (wkw (Wk.refl _) (wk1 rfl wk0))
      · skip
        have hps : p < s.size := by omega
        have hc2' : ¬ ((byteAt s p).toNat : Int) = 35 := hc2
        have hm : moreL ((aB s).drop p) = true := by rw [moreL_at]; simp only [hps, hc2', decide_true, Bool.and_self, ne_eq, not_false_eq_true]
        refine w_skip ?_
        refine n_seq ?_
        refine w_seq ?_
        refine w_reg ?_
        refine s_val rfl (v_mv lks) pt6 ?_
        refine s_nil ?_
        refine n_seq ?_
        refine w_seqC (ι := Nat × Nat × Nat) (fun (y : Nat × Nat × Nat) => [(5, iv ((p + y.2.2 : Nat) : Int)), (6, sv (cutF ((aB s).drop p) y)), (2, .any), (3, .any), (30, .any), (31, .any), (32, .any), (33, .any), (34, .any), (35, .any), (36, .any), (37, .any), (38, .any), (39, .any), (40, .any), (41, .any), (42, .any), (43, .any), (44, .any), (45, .any), (46, .any), (47, .any), (48, .any), (49, .any), (50, .any), (51, .any), (52, .any), (53, .any), (54, .any), (55, .any), (56, .any), (57, .any), (58, .any), (59, .any), (60, .any), (61, .any), (62, .any), (63, .any), (64, .any), (65, .any), (66, .any), (67, .any), (68, .any), (69, .any), (70, .any), (71, .any), (72, .any), (73, .any), (74, .any), (75, .any), (76, .any), (77, .any), (78, .any), (79, .any), (80, .any), (81, .any), (82, .any), (83, .any), (84, .any), (85, .any), (86, .any), (87, .any), (88, .any), (89, .any), (90, .any), (91, .any), (92, .any), (93, .any), (94, .any), (95, .any), (96, .any), (97, .any), (98, .any), (99, .any), (100, .any), (101, .any), (102, .any), (103, .any), (104, .any), (105, .any), (106, .any), (107, .any), (108, .any), (109, .any), (110, .any), (111, .any), (112, .any), (113, .any), (114, .any), (115, .any), (116, .any), (117, .any), (118, .any), (119, .any)]) (fun (y : Nat × Nat × Nat) => []) (fun (y : Nat × Nat × Nat) => fieldL ((aB s).drop p) = some y) ?_ ?_
        · try simp only [setsT, setsE, List.set_cons_zero, List.set_cons_succ]
          refine w_seq ?_
          refine w_reg ?_
          refine s_val rfl (v_mv lk0) pt30 ?_
          refine s_val rfl (v_mv lk5) pt31 ?_
          refine s_val rfl (v_ix lk30 lk31 (by omega) (by omega)) pt32 ?_
          refine s_val rfl (v_eql lk32 lki) pt33 ?_
          refine s_nil ?_
          refine n_seq ?_
          first | refine w_cond lk33 (fun hc3 => ?_) (fun hc3 => ?_) | refine w_condB lk33 (fun hc3 => ?_) (fun hc3 => ?_)
          · skip
            have hF := fieldL_q hps hc3
            refine w_seq ?_
            refine w_reg ?_
            refine s_val rfl (v_mv lk5) pt34 ?_
            refine s_val rfl (v_add lk34 lki (by omega) (by omega)) pt35 ?_
            refine s_val rfl (v_mv lk35) pt5 ?_
            refine s_nil ?_
            refine n_seq ?_
            refine w_seq ?_
            refine w_block ?_
            refine w_loop (ι := Nat) (fun (n : Nat) => [(5, iv ((p + 1 + n : Nat) : Int)), (6, sv (bA (((aB s).drop (p + 1)).take n))), (2, .any), (3, .any), (36, .any), (37, .any), (38, .any), (39, .any), (40, .any), (41, .any), (42, .any), (43, .any), (44, .any), (45, .any), (46, .any), (47, .any), (48, .any), (49, .any), (50, .any), (51, .any), (52, .any), (53, .any), (54, .any), (55, .any), (56, .any), (57, .any), (58, .any), (59, .any)]) (fun (n : Nat) => []) (fun (n : Nat) => p + 1 + n ≤ s.size ∧ runL quoP ((aB s).drop (p + 1)) = (runL quoP ((aB s).drop (p + 1 + n))).map (· + n)) (fun (n : Nat) => s.size - (p + 1 + n)) (0) (by exact ⟨by omega, by simp⟩) (by try simp only [setsT, setsE, List.set_cons_zero, List.set_cons_succ]; exact ALe.same (wk1 rfl (wk1 rfl (wka (wka (wk1 rfl (wk1 (by first | rfl | exact ivx (by omega) | (simp; done)) (wk1 (by first | rfl | exact ivx (by omega) | (simp; done)) (wk1 rfl (wk1 rfl (wk1 rfl (wk1 rfl (wk1 rfl (wk1 rfl (wk1 rfl (wk1 rfl (wk1 rfl (wk1 rfl (wk1 rfl (wk1 rfl (wk1 rfl (wk1 rfl (wk1 rfl (wk1 rfl (wk1 rfl (wk1 rfl (wk1 rfl (wk1 rfl (wk1 rfl (wk1 rfl (wk1 rfl (wk1 rfl (wk1 rfl (wk1 rfl (wk1 rfl (wk1 rfl (wk1 rfl (wka (wka (wka (wka (wka (wka (wka (wka (wka (wka (wka (wka (wka (wka (wka (wka (wka (wka (wka (wka (wka (wka (wka (wka (wk1 rfl (wk1 rfl (wk1 rfl (wk1 rfl (wk1 rfl (wk1 rfl (wk1 rfl (wk1 rfl (wk1 rfl (wk1 rfl (wk1 rfl (wk1 rfl (wk1 rfl (wk1 rfl (wk1 rfl (wk1 rfl (wk1 rfl (wk1 rfl (wk1 rfl (wk1 rfl (wk1 rfl (wk1 rfl (wk1 rfl (wk1 rfl (wk1 rfl (wk1 rfl (wk1 rfl (wk1 rfl (wk1 rfl (wk1 rfl (wk1 rfl (wk1 rfl (wk1 rfl (wk1 rfl (wk1 rfl (wk1 rfl (wk1 rfl (wk1 rfl (wk1 rfl (wk1 rfl (wk1 rfl (wk1 rfl (wk1 rfl (wk1 rfl (wk1 rfl (wk1 rfl (wk1 rfl (wk1 rfl (wk1 rfl (wk1 rfl (wk1 rfl (wk1 rfl (wk1 rfl (wk1 rfl (wk1 rfl (wk1 rfl (wk1 rfl (wk1 rfl (wk1 rfl (wk1 rfl (wk1 rfl (wk1 rfl (wk1 rfl (wk1 rfl (wk1 rfl (wk1 rfl (wk1 rfl (wk1 rfl (wk1 rfl (wk1 rfl (wk1 rfl (wk1 rfl wk0)))))))))))))))))))))))))))))))))))))))))))))))))))))))))))))))))))))))))))))))))))))))))))))))))))))))))))))))))))))))))))))))))))) rfl) ?_
            rintro n hi3
            try simp only [setsT, setsE, List.set_cons_zero, List.set_cons_succ]
            obtain ⟨hn1, hn2⟩ := hi3
            refine w_seq ?_
            refine w_seq ?_
            refine w_reg ?_
            refine s_val rfl (v_mv lk5) pt36 ?_
            refine s_val rfl (v_mv lk0) pt37 ?_
            refine s_val rfl (v_lenS lk37) pt38 ?_
            refine s_val rfl (v_lss lk36 lk38) pt39 ?_
            refine s_val rfl (v_mv lk39) pt40 ?_
            first | refine s_splitP gt40 pt40 pt40 (fun hg40 => ?_) (fun hg40 => ?_) | refine s_splitB gt40 pt40 pt40 (fun hg40 => ?_) (fun hg40 => ?_)
            · skip
              refine s_do gt40 ?_
              refine s_val rfl (v_mv lk0) pt41 ?_
              refine s_do gt40 ?_
              refine s_val rfl (v_mv lk5) pt42 ?_
              refine s_do gt40 ?_
              refine s_val rfl (v_ix lk41 lk42 (by omega) (by omega)) pt43 ?_
              refine s_do gt40 ?_
              refine s_val rfl (v_neq lk43 lki) pt44 ?_
              refine s_val rfl (v_pickT lk40 lk44) pt45 ?_
              refine s_nil ?_
              refine n_seq ?_
              first | refine w_cond lk45 (fun hc4 => ?_) (fun hc4 => ?_) | refine w_condB lk45 (fun hc4 => ?_) (fun hc4 => ?_)
              · skip
                have hq : quoP (byteAt s (p + 1 + n)).toNat = true := decide_eq_true hc4
                refine w_skip ?_
                refine n_seq ?_
                refine w_block ?_
                refine w_seq ?_
                refine w_seq ?_
                refine w_reg ?_
                refine s_val rfl (v_mv lk0) pt46 ?_
                refine s_val rfl (v_mv lk5) pt47 ?_
                refine s_val rfl (v_ix lk46 lk47 (by omega) (by omega)) pt48 ?_
                refine s_callp (mp1 lk48 mp0) (risPlain_a) pt49 ?_
                refine s_val rfl (v_notB lk49) pt50 ?_
                refine s_nil ?_
                refine n_seq ?_
                refine w_condB lk50 (fun hc5 => ?_) (fun hc5 => ?_)
                · skip
                  rw [runL_bad (s := s) (k := p + 1 + n) (by omega) hq (by have := hc5; rw [Bool.not_eq_true'] at this; exact this)] at hn2
                  simp only [Option.map_none] at hn2
                  rw [hn2] at hF
                  rw [fldsT_bad hm hF] at hp2
                  refine w_seq ?_
                  refine w_reg ?_
                  refine s_val rfl (v_mv lkn) pt2 ?_
                  refine s_val rfl (v_mv lki) pt3 ?_
                  refine s_nil ?_
                  refine n_seq ?_
                  refine w_rets ?_
                  refine r_thn ?_
                  refine r_blk ?_
                  refine r_thn ?_
                  refine r_blk ?_
                  refine r_thn ?_
                  refine r_thn ?_
                  refine r_blk ?_
                  refine r_thn ?_
                  refine r_blk ?_
                  refine w_ret (rsn (rm1 (rr_t gt2) (rm1 (rr_t gt3) rm0))) ?_
                  refine rtw (by first | rfl | (simp only [AV.lt, AV.ltL, Ent.lt, List.all_cons, List.all_nil, Bool.and_true, Bool.and_self, decide_true, str_lt]; done) | (simp [AV.lt, AV.ltL, Ent.lt, str_lt, *]; done) | (simp [AV.lt, AV.ltL, Ent.lt, str_lt, *]; omega)) ?_
                  rw [hp2]; exact Wk.tup (wkw Wk.nilF (wk1 rfl wk0))
                · skip
                  rw [runL_go (s := s) (k := p + 1 + n) (by omega) hq (by have := hc5; rw [Bool.not_eq_false'] at this; exact this)] at hn2
                  have hsn := ext_snoc (s := s) (a := p + 1) (n := n) (by omega)
                  refine w_skip ?_
                  refine n_seq ?_
                  refine w_seq ?_
                  refine w_reg ?_
                  refine s_val rfl (v_mv lk6) pt51 ?_
                  refine s_val rfl (v_mv lk0) pt52 ?_
                  refine s_val rfl (v_mv lk5) pt53 ?_
                  refine s_val rfl (v_mv lk5) pt54 ?_
                  refine s_val rfl (v_add lk54 lki (by omega) (by omega)) pt55 ?_
                  refine s_val rfl (v_sls lk52 (oi lk53) (oi lk55) (by omega) (by omega) (by omega)) pt56 ?_
                  refine s_val rfl (v_addS lk51 lk56 (by first | omega | (rw [bA_size, List.length_take, ByteArray.size_extract]; omega))) pt57 ?_
                  refine s_val rfl (v_mv lk57) pt6 ?_
                  refine s_nil ?_
                  refine n_seq ?_
                  refine w_reg ?_
                  refine s_val rfl (v_mv lk5) pt58 ?_
                  refine s_val rfl (v_add lk58 lki (by omega) (by omega)) pt59 ?_
                  refine s_val rfl (v_mv lk59) pt5 ?_
                  refine s_nil ?_
                  refine n_blk ?_
                  refine n_thn ?_
                  refine LoopTo.mk (n + 1) (by omega) (by (try dsimp only); exact ⟨by omega, by rw [hn2, Option.map_map]; rw [show p + 1 + (n + 1) = p + 1 + n + 1 from rfl]; congr 1; funext x; simp; omega⟩) (by (try dsimp only); (try simp only [setsT, setsE, List.set_cons_zero, List.set_cons_succ]); exact ALe.same (wk1 rfl (wk1 rfl (wka (wka (wk1 rfl (wk1 (by first | rfl | exact ivx (by omega) | (exact congrArg sv hsn.symm)) (wk1 (by first | rfl | exact ivx (by omega) | (exact congrArg sv hsn.symm)) (wk1 rfl (wk1 rfl (wk1 rfl (wk1 rfl (wk1 rfl (wk1 rfl (wk1 rfl (wk1 rfl (wk1 rfl (wk1 rfl (wk1 rfl (wk1 rfl (wk1 rfl (wk1 rfl (wk1 rfl (wk1 rfl (wk1 rfl (wk1 rfl (wk1 rfl (wk1 rfl (wk1 rfl (wk1 rfl (wk1 rfl (wk1 rfl (wk1 rfl (wk1 rfl (wk1 rfl (wk1 rfl (wk1 rfl (wka (wka (wka (wka (wka (wka (wka (wka (wka (wka (wka (wka (wka (wka (wka (wka (wka (wka (wka (wka (wka (wka (wka (wka (wk1 rfl (wk1 rfl (wk1 rfl (wk1 rfl (wk1 rfl (wk1 rfl (wk1 rfl (wk1 rfl (wk1 rfl (wk1 rfl (wk1 rfl (wk1 rfl (wk1 rfl (wk1 rfl (wk1 rfl (wk1 rfl (wk1 rfl (wk1 rfl (wk1 rfl (wk1 rfl (wk1 rfl (wk1 rfl (wk1 rfl (wk1 rfl (wk1 rfl (wk1 rfl (wk1 rfl (wk1 rfl (wk1 rfl (wk1 rfl (wk1 rfl (wk1 rfl (wk1 rfl (wk1 rfl (wk1 rfl (wk1 rfl (wk1 rfl (wk1 rfl (wk1 rfl (wk1 rfl (wk1 rfl (wk1 rfl (wk1 rfl (wk1 rfl (wk1 rfl (wk1 rfl (wk1 rfl (wk1 rfl (wk1 rfl (wk1 rfl (wk1 rfl (wk1 rfl (wk1 rfl (wk1 rfl (wk1 rfl (wk1 rfl (wk1 rfl (wk1 rfl (wk1 rfl (wk1 rfl (wk1 rfl (wk1 rfl (wk1 rfl (wk1 rfl (wk1 rfl (wk1 rfl (wk1 rfl (wk1 rfl (wk1 rfl (wk1 rfl (wk1 rfl (wk1 rfl wk0)))))))))))))))))))))))))))))))))))))))))))))))))))))))))))))))))))))))))))))))))))))))))))))))))))))))))))))))))))))))))))))))))))) rfl)
              · skip
                have hc4' : ((byteAt s (p + 1 + n)).toNat : Int) = 34 := Decidable.of_not_not hc4
                rw [runL_stop (s := s) (k := p + 1 + n) (by omega) (by rw [hc4']; decide)] at hn2
                simp only [Option.map_some, Nat.zero_add] at hn2
                rw [hn2] at hF
                simp only at hF
                refine w_exit ?_
                refine x_thn ?_
                refine x_thn ?_
                refine x_blk ?_
                refine n_seq ?_
                refine w_seq ?_
                refine w_seq ?_
                refine w_reg ?_
                refine s_val rfl (v_mv lk5) pt60 ?_
                refine s_val rfl (v_mv lk0) pt61 ?_
                refine s_val rfl (v_lenS lk61) pt62 ?_
                refine s_val rfl (v_eql lk60 lk62) pt63 ?_
                refine s_nil ?_
                refine n_seq ?_
                first | refine w_cond lk63 (fun hc6 => ?_) (fun hc6 => ?_) | refine w_condB lk63 (fun hc6 => ?_) (fun hc6 => ?_)
                · skip
                  rw [if_pos (by omega)] at hF
                  rw [fldsT_bad hm hF] at hp2
                  refine w_seq ?_
                  refine w_reg ?_
                  refine s_val rfl (v_mv lkn) pt2 ?_
                  refine s_val rfl (v_mv lki) pt3 ?_
                  refine s_nil ?_
                  refine n_seq ?_
                  refine w_rets ?_
                  refine r_thn ?_
                  refine r_thn ?_
                  refine r_blk ?_
                  refine r_thn ?_
                  refine r_blk ?_
                  refine w_ret (rsn (rm1 (rr_t gt2) (rm1 (rr_t gt3) rm0))) ?_
                  refine rtw (by first | rfl | (simp only [AV.lt, AV.ltL, Ent.lt, List.all_cons, List.all_nil, Bool.and_true, Bool.and_self, decide_true, str_lt]; done) | (simp [AV.lt, AV.ltL, Ent.lt, str_lt, *]; done) | (simp [AV.lt, AV.ltL, Ent.lt, str_lt, *]; omega)) ?_
                  rw [hp2]; exact Wk.tup (wkw Wk.nilF (wk1 rfl wk0))
                · skip
                  rw [if_neg (by omega)] at hF
                  refine w_skip ?_
                  refine n_seq ?_
                  refine w_seq ?_
                  refine w_reg ?_
                  refine s_val rfl (v_mv lk5) pt64 ?_
                  refine s_val rfl (v_add lk64 lki (by omega) (by omega)) pt65 ?_
                  refine s_val rfl (v_mv lk65) pt5 ?_
                  refine s_nil ?_
                  refine n_seq ?_
                  rw [show (((p + 1 + n : Nat) : Int) + 1) = ((p + n + 2 : Nat) : Int) by omega]
                  refine w_seq ?_
                  refine w_reg ?_
                  refine s_val rfl (v_mv lk5) pt66 ?_
                  refine s_val rfl (v_mv lk0) pt67 ?_
                  refine s_val rfl (v_lenS lk67) pt68 ?_
                  refine s_val rfl (v_lss lk66 lk68) pt69 ?_
                  refine s_val rfl (v_mv lk69) (ptS pt0) ?_
                  first | refine s_splitP (gtS gt0) (ptS pt0) (ptS pt0) (fun hg70 => ?_) (fun hg70 => ?_) | refine s_splitB (gtS gt0) (ptS pt0) (ptS pt0) (fun hg70 => ?_) (fun hg70 => ?_)
                  · skip
                    refine s_do (gtS gt0) ?_
                    refine s_val rfl (v_mv lk0) (ptS pt1) ?_
                    refine s_do (gtS gt0) ?_
                    refine s_val rfl (v_mv lk5) (ptS pt2) ?_
                    refine s_do (gtS gt0) ?_
                    refine s_val rfl (v_ix (lkS lk1) (lkS lk2) (by omega) (by omega)) (ptS pt3) ?_
                    refine s_do (gtS gt0) ?_
                    refine s_callp (mp1 (lkS lk3) mp0) (risBlank_a) (ptS pt4) ?_
                    refine s_do (gtS gt0) ?_
                    refine s_val rfl (v_notB (lkS lk4)) (ptS pt5) ?_
                    refine s_val rfl (v_pickT (lkS lk0) (lkS lk5)) (ptS pt6) ?_
                    refine s_val rfl (v_mv (lkS lk6)) (ptS pt7) ?_
                    refine s_splitB (gtS gt7) (ptS pt7) (ptS pt7) (fun hg77 => ?_) (fun hg77 => ?_)
                    · skip
                      refine s_do (gtS gt7) ?_
                      refine s_val rfl (v_mv lk0) (ptS pt8) ?_
                      refine s_do (gtS gt7) ?_
                      refine s_val rfl (v_mv lk5) (ptS pt9) ?_
                      refine s_do (gtS gt7) ?_
                      refine s_val rfl (v_ix (lkS lk8) (lkS lk9) (by omega) (by omega)) (ptS pt10) ?_
                      refine s_do (gtS gt7) ?_
                      refine s_val rfl (v_neq (lkS lk10) lki) (ptS pt11) ?_
                      refine s_val rfl (v_pickT (lkS lk7) (lkS lk11)) (ptS pt12) ?_
                      refine s_nil ?_
                      refine n_seq ?_
                      first | refine w_cond (lkS lk12) (fun hc7 => ?_) (fun hc7 => ?_) | refine w_condB (lkS lk12) (fun hc7 => ?_) (fun hc7 => ?_)
                      · skip
                        have hb : blkN (byteAt s (p + n + 2)).toNat = false := by have := hg77; rw [Bool.not_eq_true'] at this; exact this
                        have hc7' : ((byteAt s (p + n + 2)).toNat : Int) ≠ 35 := hc7
                        rw [if_pos ⟨by rw [moreL_at]; simp only [show p + n + 2 < s.size by omega, hc7', decide_true, Bool.and_self, ne_eq, not_false_eq_true], by rw [headN_at (by omega), hb]⟩] at hF
                        rw [fldsT_bad hm hF] at hp2
                        refine w_seq ?_
                        refine w_reg ?_
                        refine s_val rfl (v_mv lkn) pt2 ?_
                        refine s_val rfl (v_mv lki) pt3 ?_
                        refine s_nil ?_
                        refine n_seq ?_
                        refine w_rets ?_
                        refine r_thn ?_
                        refine r_blk ?_
                        refine r_thn ?_
                        refine r_blk ?_
                        refine w_ret (rsn (rm1 (rr_t gt2) (rm1 (rr_t gt3) rm0))) ?_
                        refine rtw (by first | rfl | (simp only [AV.lt, AV.ltL, Ent.lt, List.all_cons, List.all_nil, Bool.and_true, Bool.and_self, decide_true, str_lt]; done) | (simp [AV.lt, AV.ltL, Ent.lt, str_lt, *]; done) | (simp [AV.lt, AV.ltL, Ent.lt, str_lt, *]; omega)) ?_
                        rw [hp2]; exact Wk.tup (wkw Wk.nilF (wk1 rfl wk0))
                      · skip
                        have hc7' : ((byteAt s (p + n + 2)).toNat : Int) = 35 := Decidable.of_not_not hc7
                        rw [if_neg (by rw [moreL_at]; simp [hc7'])] at hF
                        refine w_skip ?_
                        refine n_thn ?_
                        exact ⟨(1, n, n + 2), (by exact hF), (by (try dsimp only); (try simp only [setsT, setsE, List.set_cons_zero, List.set_cons_succ]); exact ALe.same (wk1 rfl (wk1 rfl (wka (wka (wk1 rfl (wk1 (by first | rfl | exact ivx (by simp; omega) | (simp [cutF, List.drop_drop]; done)) (wk1 (by first | rfl | exact ivx (by simp; omega) | (simp [cutF, List.drop_drop]; done)) (wk1 rfl (wk1 rfl (wk1 rfl (wk1 rfl (wk1 rfl (wk1 rfl (wk1 rfl (wk1 rfl (wk1 rfl (wk1 rfl (wk1 rfl (wk1 rfl (wk1 rfl (wk1 rfl (wk1 rfl (wk1 rfl (wk1 rfl (wk1 rfl (wk1 rfl (wk1 rfl (wk1 rfl (wk1 rfl (wk1 rfl (wka (wka (wka (wka (wka (wka (wka (wka (wka (wka (wka (wka (wka (wka (wka (wka (wka (wka (wka (wka (wka (wka (wka (wka (wka (wka (wka (wka (wka (wka (wka (wka (wka (wka (wka (wka (wka (wka (wka (wka (wka (wka (wka (wka (wka (wka (wka (wka (wka (wka (wka (wka (wka (wka (wka (wka (wka (wka (wka (wka (wka (wka (wka (wka (wka (wka (wka (wka (wka (wka (wka (wka (wka (wka (wka (wka (wka (wka (wka (wka (wka (wka (wka (wka (wka (wka (wka (wka (wka (wka (wk1 rfl (wk1 rfl (wk1 rfl (wk1 rfl (wk1 rfl (wk1 rfl (wk1 rfl (wk1 rfl (wk1 rfl (wk1 rfl (wk1 rfl (wk1 rfl wk0)))))))))))))))))))))))))))))))))))))))))))))))))))))))))))))))))))))))))))))))))))))))))))))))))))))))))))))))))))))))))))))))))))) rfl)⟩
                    · skip
                      have hb : blkN (byteAt s (p + n + 2)).toNat = true := by have := hg77; rw [Bool.not_eq_false'] at this; exact this
                      rw [if_neg (by rw [headN_at (by omega), hb]; simp)] at hF
                      refine s_no (gtS gt7) (ptS pt8) ?_
                      refine s_no (gtS gt7) (ptS pt9) ?_
                      refine s_no (gtS gt7) (ptS pt10) ?_
                      refine s_no (gtS gt7) (ptS pt11) ?_
                      refine s_val rfl (v_pickF (lkS lk7) lkb) (ptS pt12) ?_
                      refine s_nil ?_
                      refine n_seq ?_
                      refine w_condF (lkS lk12) ?_
                      refine w_skip ?_
                      refine n_thn ?_
                      exact ⟨(1, n, n + 2), (by exact hF), (by (try dsimp only); (try simp only [setsT, setsE, List.set_cons_zero, List.set_cons_succ]); exact ALe.same (wk1 rfl (wk1 rfl (wka (wka (wk1 rfl (wk1 (by first | rfl | exact ivx (by simp; omega) | (simp [cutF, List.drop_drop]; done)) (wk1 (by first | rfl | exact ivx (by simp; omega) | (simp [cutF, List.drop_drop]; done)) (wk1 rfl (wk1 rfl (wk1 rfl (wk1 rfl (wk1 rfl (wk1 rfl (wk1 rfl (wk1 rfl (wk1 rfl (wk1 rfl (wk1 rfl (wk1 rfl (wk1 rfl (wk1 rfl (wk1 rfl (wk1 rfl (wk1 rfl (wk1 rfl (wk1 rfl (wk1 rfl (wk1 rfl (wk1 rfl (wk1 rfl (wka (wka (wka (wka (wka (wka (wka (wka (wka (wka (wka (wka (wka (wka (wka (wka (wka (wka (wka (wka (wka (wka (wka (wka (wka (wka (wka (wka (wka (wka (wka (wka (wka (wka (wka (wka (wka (wka (wka (wka (wka (wka (wka (wka (wka (wka (wka (wka (wka (wka (wka (wka (wka (wka (wka (wka (wka (wka (wka (wka (wka (wka (wka (wka (wka (wka (wka (wka (wka (wka (wka (wka (wka (wka (wka (wka (wka (wka (wka (wka (wka (wka (wka (wka (wka (wka (wka (wka (wka (wka (wk1 rfl (wk1 rfl (wk1 rfl (wk1 rfl (wk1 rfl (wk1 rfl (wk1 rfl (wk1 rfl (wk1 rfl (wk1 rfl (wk1 rfl (wk1 rfl wk0)))))))))))))))))))))))))))))))))))))))))))))))))))))))))))))))))))))))))))))))))))))))))))))))))))))))))))))))))))))))))))))))))))) rfl)⟩
                  · skip
                    rw [if_neg (by rw [moreL_at]; simp; omega)] at hF
                    refine s_no (gtS gt0) (ptS pt1) ?_
                    refine s_no (gtS gt0) (ptS pt2) ?_
                    refine s_no (gtS gt0) (ptS pt3) ?_
                    refine s_no (gtS gt0) (ptS pt4) ?_
                    refine s_no (gtS gt0) (ptS pt5) ?_
                    refine s_val rfl (v_pickF (lkS lk0) lkb) (ptS pt6) ?_
                    refine s_val rfl (v_mv (lkS lk6)) (ptS pt7) ?_
                    refine s_no (gtS gt7) (ptS pt8) ?_
                    refine s_no (gtS gt7) (ptS pt9) ?_
                    refine s_no (gtS gt7) (ptS pt10) ?_
                    refine s_no (gtS gt7) (ptS pt11) ?_
                    refine s_val rfl (v_pickF (lkS lk7) lkb) (ptS pt12) ?_
                    refine s_nil ?_
                    refine n_seq ?_
                    refine w_condF (lkS lk12) ?_
                    refine w_skip ?_
                    refine n_thn ?_
                    exact ⟨(1, n, n + 2), (by exact hF), (by (try dsimp only); (try simp only [setsT, setsE, List.set_cons_zero, List.set_cons_succ]); exact ALe.same (wk1 rfl (wk1 rfl (wka (wka (wk1 rfl (wk1 (by first | rfl | exact ivx (by simp; omega) | (simp [cutF, List.drop_drop]; done)) (wk1 (by first | rfl | exact ivx (by simp; omega) | (simp [cutF, List.drop_drop]; done)) (wk1 rfl (wk1 rfl (wk1 rfl (wk1 rfl (wk1 rfl (wk1 rfl (wk1 rfl (wk1 rfl (wk1 rfl (wk1 rfl (wk1 rfl (wk1 rfl (wk1 rfl (wk1 rfl (wk1 rfl (wk1 rfl (wk1 rfl (wk1 rfl (wk1 rfl (wk1 rfl (wk1 rfl (wk1 rfl (wk1 rfl (wka (wka (wka (wka (wka (wka (wka (wka (wka (wka (wka (wka (wka (wka (wka (wka (wka (wka (wka (wka (wka (wka (wka (wka (wka (wka (wka (wka (wka (wka (wka (wka (wka (wka (wka (wka (wka (wka (wka (wka (wka (wka (wka (wka (wka (wka (wka (wka (wka (wka (wka (wka (wka (wka (wka (wka (wka (wka (wka (wka (wka (wka (wka (wka (wka (wka (wka (wka (wka (wka (wka (wka (wka (wka (wka (wka (wka (wka (wka (wka (wka (wka (wka (wka (wka (wka (wka (wka (wka (wka (wk1 rfl (wk1 rfl (wk1 rfl (wk1 rfl (wk1 rfl (wk1 rfl (wk1 rfl (wk1 rfl (wk1 rfl (wk1 rfl (wk1 rfl (wk1 rfl wk0)))))))))))))))))))))))))))))))))))))))))))))))))))))))))))))))))))))))))))))))))))))))))))))))))))))))))))))))))))))))))))))))))))) rfl)⟩
            · skip
              rw [runL_end (s := s) (k := p + 1 + n) (by omega)] at hn2
              simp only [Option.map_some, Nat.zero_add] at hn2
              rw [hn2] at hF
              simp only at hF
              refine s_no gt40 pt41 ?_
              refine s_no gt40 pt42 ?_
              refine s_no gt40 pt43 ?_
              refine s_no gt40 pt44 ?_
              refine s_val rfl (v_pickF lk40 lkb) pt45 ?_
              refine s_nil ?_
              refine n_seq ?_
              refine w_condF lk45 ?_
              refine w_exit ?_
              refine x_thn ?_
              refine x_thn ?_
              refine x_blk ?_
              refine n_seq ?_
              refine w_seq ?_
              refine w_seq ?_
              refine w_reg ?_
              refine s_val rfl (v_mv lk5) pt60 ?_
              refine s_val rfl (v_mv lk0) pt61 ?_
              refine s_val rfl (v_lenS lk61) pt62 ?_
              refine s_val rfl (v_eql lk60 lk62) pt63 ?_
              refine s_nil ?_
              refine n_seq ?_
              first | refine w_cond lk63 (fun hc6 => ?_) (fun hc6 => ?_) | refine w_condB lk63 (fun hc6 => ?_) (fun hc6 => ?_)
              · skip
                rw [if_pos (by omega)] at hF
                rw [fldsT_bad hm hF] at hp2
                refine w_seq ?_
                refine w_reg ?_
                refine s_val rfl (v_mv lkn) pt2 ?_
                refine s_val rfl (v_mv lki) pt3 ?_
                refine s_nil ?_
                refine n_seq ?_
                refine w_rets ?_
                refine r_thn ?_
                refine r_thn ?_
                refine r_blk ?_
                refine r_thn ?_
                refine r_blk ?_
                refine w_ret (rsn (rm1 (rr_t gt2) (rm1 (rr_t gt3) rm0))) ?_
                refine rtw (by first | rfl | (simp only [AV.lt, AV.ltL, Ent.lt, List.all_cons, List.all_nil, Bool.and_true, Bool.and_self, decide_true, str_lt]; done) | (simp [AV.lt, AV.ltL, Ent.lt, str_lt, *]; done) | (simp [AV.lt, AV.ltL, Ent.lt, str_lt, *]; omega)) ?_
                rw [hp2]; exact Wk.tup (wkw Wk.nilF (wk1 rfl wk0))
              · skip
                rw [if_neg (by omega)] at hF
                refine w_skip ?_
                refine n_seq ?_
                refine w_seq ?_
                refine w_reg ?_
                refine s_val rfl (v_mv lk5) pt64 ?_
                refine s_val rfl (v_add lk64 lki (by omega) (by omega)) pt65 ?_
                refine s_val rfl (v_mv lk65) pt5 ?_
                refine s_nil ?_
                refine n_seq ?_
                rw [show (((p + 1 + n : Nat) : Int) + 1) = ((p + n + 2 : Nat) : Int) by omega]
                refine w_seq ?_
                refine w_reg ?_
                refine s_val rfl (v_mv lk5) pt66 ?_
                refine s_val rfl (v_mv lk0) pt67 ?_
                refine s_val rfl (v_lenS lk67) pt68 ?_
                refine s_val rfl (v_lss lk66 lk68) pt69 ?_
                refine s_val rfl (v_mv lk69) (ptS pt0) ?_
                first | refine s_splitP (gtS gt0) (ptS pt0) (ptS pt0) (fun hg70 => ?_) (fun hg70 => ?_) | refine s_splitB (gtS gt0) (ptS pt0) (ptS pt0) (fun hg70 => ?_) (fun hg70 => ?_)
                · skip
                  refine s_do (gtS gt0) ?_
                  refine s_val rfl (v_mv lk0) (ptS pt1) ?_
                  refine s_do (gtS gt0) ?_
                  refine s_val rfl (v_mv lk5) (ptS pt2) ?_
                  refine s_do (gtS gt0) ?_
                  refine s_val rfl (v_ix (lkS lk1) (lkS lk2) (by omega) (by omega)) (ptS pt3) ?_
                  refine s_do (gtS gt0) ?_
                  refine s_callp (mp1 (lkS lk3) mp0) (risBlank_a) (ptS pt4) ?_
                  refine s_do (gtS gt0) ?_
                  refine s_val rfl (v_notB (lkS lk4)) (ptS pt5) ?_
                  refine s_val rfl (v_pickT (lkS lk0) (lkS lk5)) (ptS pt6) ?_
                  refine s_val rfl (v_mv (lkS lk6)) (ptS pt7) ?_
                  refine s_splitB (gtS gt7) (ptS pt7) (ptS pt7) (fun hg77 => ?_) (fun hg77 => ?_)
                  · skip
                    refine s_do (gtS gt7) ?_
                    refine s_val rfl (v_mv lk0) (ptS pt8) ?_
                    refine s_do (gtS gt7) ?_
                    refine s_val rfl (v_mv lk5) (ptS pt9) ?_
                    refine s_do (gtS gt7) ?_
                    refine s_val rfl (v_ix (lkS lk8) (lkS lk9) (by omega) (by omega)) (ptS pt10) ?_
                    refine s_do (gtS gt7) ?_
                    refine s_val rfl (v_neq (lkS lk10) lki) (ptS pt11) ?_
                    refine s_val rfl (v_pickT (lkS lk7) (lkS lk11)) (ptS pt12) ?_
                    refine s_nil ?_
                    refine n_seq ?_
                    first | refine w_cond (lkS lk12) (fun hc7 => ?_) (fun hc7 => ?_) | refine w_condB (lkS lk12) (fun hc7 => ?_) (fun hc7 => ?_)
                    · skip
                      have hb : blkN (byteAt s (p + n + 2)).toNat = false := by have := hg77; rw [Bool.not_eq_true'] at this; exact this
                      have hc7' : ((byteAt s (p + n + 2)).toNat : Int) ≠ 35 := hc7
                      rw [if_pos ⟨by rw [moreL_at]; simp only [show p + n + 2 < s.size by omega, hc7', decide_true, Bool.and_self, ne_eq, not_false_eq_true], by rw [headN_at (by omega), hb]⟩] at hF
                      rw [fldsT_bad hm hF] at hp2
                      refine w_seq ?_
                      refine w_reg ?_
                      refine s_val rfl (v_mv lkn) pt2 ?_
                      refine s_val rfl (v_mv lki) pt3 ?_
                      refine s_nil ?_
                      refine n_seq ?_
                      refine w_rets ?_
                      refine r_thn ?_
                      refine r_blk ?_
                      refine r_thn ?_
                      refine r_blk ?_
                      refine w_ret (rsn (rm1 (rr_t gt2) (rm1 (rr_t gt3) rm0))) ?_
                      refine rtw (by first | rfl | (simp only [AV.lt, AV.ltL, Ent.lt, List.all_cons, List.all_nil, Bool.and_true, Bool.and_self, decide_true, str_lt]; done) | (simp [AV.lt, AV.ltL, Ent.lt, str_lt, *]; done) | (simp [AV.lt, AV.ltL, Ent.lt, str_lt, *]; omega)) ?_
                      rw [hp2]; exact Wk.tup (wkw Wk.nilF (wk1 rfl wk0))
                    · skip
                      have hc7' : ((byteAt s (p + n + 2)).toNat : Int) = 35 := Decidable.of_not_not hc7
                      rw [if_neg (by rw [moreL_at]; simp [hc7'])] at hF
                      refine w_skip ?_
                      refine n_thn ?_
                      exact ⟨(1, n, n + 2), (by exact hF), (by (try dsimp only); (try simp only [setsT, setsE, List.set_cons_zero, List.set_cons_succ]); exact ALe.same (wk1 rfl (wk1 rfl (wka (wka (wk1 rfl (wk1 (by first | rfl | exact ivx (by simp; omega) | (simp [cutF, List.drop_drop]; done)) (wk1 (by first | rfl | exact ivx (by simp; omega) | (simp [cutF, List.drop_drop]; done)) (wk1 rfl (wk1 rfl (wk1 rfl (wk1 rfl (wk1 rfl (wk1 rfl (wk1 rfl (wk1 rfl (wk1 rfl (wk1 rfl (wk1 rfl (wk1 rfl (wk1 rfl (wk1 rfl (wk1 rfl (wk1 rfl (wk1 rfl (wk1 rfl (wk1 rfl (wk1 rfl (wk1 rfl (wk1 rfl (wk1 rfl (wka (wka (wka (wka (wka (wka (wka (wka (wka (wka (wka (wka (wka (wka (wka (wka (wka (wka (wka (wka (wka (wka (wka (wka (wka (wka (wka (wka (wka (wka (wka (wka (wka (wka (wka (wka (wka (wka (wka (wka (wka (wka (wka (wka (wka (wka (wka (wka (wka (wka (wka (wka (wka (wka (wka (wka (wka (wka (wka (wka (wka (wka (wka (wka (wka (wka (wka (wka (wka (wka (wka (wka (wka (wka (wka (wka (wka (wka (wka (wka (wka (wka (wka (wka (wka (wka (wka (wka (wka (wka (wk1 rfl (wk1 rfl (wk1 rfl (wk1 rfl (wk1 rfl (wk1 rfl (wk1 rfl (wk1 rfl (wk1 rfl (wk1 rfl (wk1 rfl (wk1 rfl wk0)))))))))))))))))))))))))))))))))))))))))))))))))))))))))))))))))))))))))))))))))))))))))))))))))))))))))))))))))))))))))))))))))))) rfl)⟩
                  · skip
                    have hb : blkN (byteAt s (p + n + 2)).toNat = true := by have := hg77; rw [Bool.not_eq_false'] at this; exact this
                    rw [if_neg (by rw [headN_at (by omega), hb]; simp)] at hF
                    refine s_no (gtS gt7) (ptS pt8) ?_
                    refine s_no (gtS gt7) (ptS pt9) ?_
                    refine s_no (gtS gt7) (ptS pt10) ?_
                    refine s_no (gtS gt7) (ptS pt11) ?_
                    refine s_val rfl (v_pickF (lkS lk7) lkb) (ptS pt12) ?_
                    refine s_nil ?_
                    refine n_seq ?_
                    refine w_condF (lkS lk12) ?_
                    refine w_skip ?_
                    refine n_thn ?_
                    exact ⟨(1, n, n + 2), (by exact hF), (by (try dsimp only); (try simp only [setsT, setsE, List.set_cons_zero, List.set_cons_succ]); exact ALe.same (wk1 rfl (wk1 rfl (wka (wka (wk1 rfl (wk1 (by first | rfl | exact ivx (by simp; omega) | (simp [cutF, List.drop_drop]; done)) (wk1 (by first | rfl | exact ivx (by simp; omega) | (simp [cutF, List.drop_drop]; done)) (wk1 rfl (wk1 rfl (wk1 rfl (wk1 rfl (wk1 rfl (wk1 rfl (wk1 rfl (wk1 rfl (wk1 rfl (wk1 rfl (wk1 rfl (wk1 rfl (wk1 rfl (wk1 rfl (wk1 rfl (wk1 rfl (wk1 rfl (wk1 rfl (wk1 rfl (wk1 rfl (wk1 rfl (wk1 rfl (wk1 rfl (wka (wka (wka (wka (wka (wka (wka (wka (wka (wka (wka (wka (wka (wka (wka (wka (wka (wka (wka (wka (wka (wka (wka (wka (wka (wka (wka (wka (wka (wka (wka (wka (wka (wka (wka (wka (wka (wka (wka (wka (wka (wka (wka (wka (wka (wka (wka (wka (wka (wka (wka (wka (wka (wka (wka (wka (wka (wka (wka (wka (wka (wka (wka (wka (wka (wka (wka (wka (wka (wka (wka (wka (wka (wka (wka (wka (wka (wka (wka (wka (wka (wka (wka (wka (wka (wka (wka (wka (wka (wka (wk1 rfl (wk1 rfl (wk1 rfl (wk1 rfl (wk1 rfl (wk1 rfl (wk1 rfl (wk1 rfl (wk1 rfl (wk1 rfl (wk1 rfl (wk1 rfl wk0)))))))))))))))))))))))))))))))))))))))))))))))))))))))))))))))))))))))))))))))))))))))))))))))))))))))))))))))))))))))))))))))))))) rfl)⟩
                · skip
                  rw [if_neg (by rw [moreL_at]; simp; omega)] at hF
                  refine s_no (gtS gt0) (ptS pt1) ?_
                  refine s_no (gtS gt0) (ptS pt2) ?_
                  refine s_no (gtS gt0) (ptS pt3) ?_
                  refine s_no (gtS gt0) (ptS pt4) ?_
                  refine s_no (gtS gt0) (ptS pt5) ?_
                  refine s_val rfl (v_pickF (lkS lk0) lkb) (ptS pt6) ?_
                  refine s_val rfl (v_mv (lkS lk6)) (ptS pt7) ?_
                  refine s_no (gtS gt7) (ptS pt8) ?_
                  refine s_no (gtS gt7) (ptS pt9) ?_
                  refine s_no (gtS gt7) (ptS pt10) ?_
                  refine s_no (gtS gt7) (ptS pt11) ?_
                  refine s_val rfl (v_pickF (lkS lk7) lkb) (ptS pt12) ?_
                  refine s_nil ?_
                  refine n_seq ?_
                  refine w_condF (lkS lk12) ?_
                  refine w_skip ?_
                  refine n_thn ?_
                  exact ⟨(1, n, n + 2), (by exact hF), (by (try dsimp only); (try simp only [setsT, setsE, List.set_cons_zero, List.set_cons_succ]); exact ALe.same (wk1 rfl (wk1 rfl (wka (wka (wk1 rfl (wk1 (by first | rfl | exact ivx (by simp; omega) | (simp [cutF, List.drop_drop]; done)) (wk1 (by first | rfl | exact ivx (by simp; omega) | (simp [cutF, List.drop_drop]; done)) (wk1 rfl (wk1 rfl (wk1 rfl (wk1 rfl (wk1 rfl (wk1 rfl (wk1 rfl (wk1 rfl (wk1 rfl (wk1 rfl (wk1 rfl (wk1 rfl (wk1 rfl (wk1 rfl (wk1 rfl (wk1 rfl (wk1 rfl (wk1 rfl (wk1 rfl (wk1 rfl (wk1 rfl (wk1 rfl (wk1 rfl (wka (wka (wka (wka (wka (wka (wka (wka (wka (wka (wka (wka (wka (wka (wka (wka (wka (wka (wka (wka (wka (wka (wka (wka (wka (wka (wka (wka (wka (wka (wka (wka (wka (wka (wka (wka (wka (wka (wka (wka (wka (wka (wka (wka (wka (wka (wka (wka (wka (wka (wka (wka (wka (wka (wka (wka (wka (wka (wka (wka (wka (wka (wka (wka (wka (wka (wka (wka (wka (wka (wka (wka (wka (wka (wka (wka (wka (wka (wka (wka (wka (wka (wka (wka (wka (wka (wka (wka (wka (wka (wk1 rfl (wk1 rfl (wk1 rfl (wk1 rfl (wk1 rfl (wk1 rfl (wk1 rfl (wk1 rfl (wk1 rfl (wk1 rfl (wk1 rfl (wk1 rfl wk0)))))))))))))))))))))))))))))))))))))))))))))))))))))))))))))))))))))))))))))))))))))))))))))))))))))))))))))))))))))))))))))))))))) rfl)⟩
          · skip
            have hF := fieldL_f hps hc3
            refine w_block ?_
            refine w_loop (ι := Nat) (fun (n : Nat) => [(5, iv ((p + n : Nat) : Int)), (6, sv (bA (((aB s).drop p).take n))), (2, .any), (3, .any), (83, .any), (84, .any), (85, .any), (86, .any), (87, .any), (88, .any), (89, .any), (90, .any), (91, .any), (92, .any), (93, .any), (94, .any), (95, .any), (96, .any), (97, .any), (98, .any), (99, .any), (100, .any), (101, .any), (102, .any), (103, .any), (104, .any), (105, .any), (106, .any), (107, .any), (108, .any), (109, .any), (110, .any), (111, .any), (112, .any), (113, .any), (114, .any), (115, .any), (116, .any), (117, .any), (118, .any), (119, .any)]) (fun (n : Nat) => []) (fun (n : Nat) => p + n ≤ s.size ∧ runL fldP ((aB s).drop p) = (runL fldP ((aB s).drop (p + n))).map (· + n)) (fun (n : Nat) => s.size - (p + n)) (0) (by exact ⟨by omega, by simp⟩) (by try simp only [setsT, setsE, List.set_cons_zero, List.set_cons_succ]; exact ALe.same (wk1 rfl (wk1 rfl (wka (wka (wk1 rfl (wk1 (by first | rfl | exact ivx (by omega) | (simp; done)) (wk1 (by first | rfl | exact ivx (by omega) | (simp; done)) (wk1 rfl (wk1 rfl (wk1 rfl (wk1 rfl (wk1 rfl (wk1 rfl (wk1 rfl (wk1 rfl (wk1 rfl (wk1 rfl (wk1 rfl (wk1 rfl (wk1 rfl (wk1 rfl (wk1 rfl (wk1 rfl (wk1 rfl (wk1 rfl (wk1 rfl (wk1 rfl (wk1 rfl (wk1 rfl (wk1 rfl (wk1 rfl (wk1 rfl (wk1 rfl (wk1 rfl (wk1 rfl (wk1 rfl (wk1 rfl (wk1 rfl (wk1 rfl (wk1 rfl (wk1 rfl (wk1 rfl (wk1 rfl (wk1 rfl (wk1 rfl (wk1 rfl (wk1 rfl (wk1 rfl (wk1 rfl (wk1 rfl (wk1 rfl (wk1 rfl (wk1 rfl (wk1 rfl (wk1 rfl (wk1 rfl (wk1 rfl (wk1 rfl (wk1 rfl (wk1 rfl (wk1 rfl (wk1 rfl (wk1 rfl (wk1 rfl (wk1 rfl (wk1 rfl (wk1 rfl (wk1 rfl (wk1 rfl (wk1 rfl (wk1 rfl (wk1 rfl (wk1 rfl (wk1 rfl (wk1 rfl (wk1 rfl (wk1 rfl (wk1 rfl (wk1 rfl (wk1 rfl (wk1 rfl (wk1 rfl (wk1 rfl (wka (wka (wka (wka (wka (wka (wka (wka (wka (wka (wka (wka (wka (wka (wka (wka (wka (wka (wka (wka (wka (wka (wka (wka (wka (wka (wka (wka (wka (wka (wka (wka (wka (wka (wka (wka (wka (wk1 rfl (wk1 rfl (wk1 rfl (wk1 rfl (wk1 rfl (wk1 rfl (wk1 rfl (wk1 rfl (wk1 rfl (wk1 rfl (wk1 rfl (wk1 rfl wk0)))))))))))))))))))))))))))))))))))))))))))))))))))))))))))))))))))))))))))))))))))))))))))))))))))))))))))))))))))))))))))))))))))) rfl) ?_
            rintro n hi4
            try simp only [setsT, setsE, List.set_cons_zero, List.set_cons_succ]
            obtain ⟨hn1, hn2⟩ := hi4
            refine w_seq ?_
            refine w_seq ?_
            refine w_reg ?_
            refine s_val rfl (v_mv lk5) (ptS pt13) ?_
            refine s_val rfl (v_mv lk0) (ptS pt14) ?_
            refine s_val rfl (v_lenS (lkS lk14)) (ptS pt15) ?_
            refine s_val rfl (v_lss (lkS lk13) (lkS lk15)) (ptS pt16) ?_
            refine s_val rfl (v_mv (lkS lk16)) (ptS pt17) ?_
            first | refine s_splitP (gtS gt17) (ptS pt17) (ptS pt17) (fun hg87 => ?_) (fun hg87 => ?_) | refine s_splitB (gtS gt17) (ptS pt17) (ptS pt17) (fun hg87 => ?_) (fun hg87 => ?_)
            · skip
              refine s_do (gtS gt17) ?_
              refine s_val rfl (v_mv lk0) (ptS pt18) ?_
              refine s_do (gtS gt17) ?_
              refine s_val rfl (v_mv lk5) (ptS pt19) ?_
              refine s_do (gtS gt17) ?_
              refine s_val rfl (v_ix (lkS lk18) (lkS lk19) (by omega) (by omega)) (ptS pt20) ?_
              refine s_do (gtS gt17) ?_
              refine s_callp (mp1 (lkS lk20) mp0) (risBlank_a) (ptS pt21) ?_
              refine s_do (gtS gt17) ?_
              refine s_val rfl (v_notB (lkS lk21)) (ptS pt22) ?_
              refine s_val rfl (v_pickT (lkS lk17) (lkS lk22)) (ptS pt23) ?_
              refine s_val rfl (v_mv (lkS lk23)) (ptS pt24) ?_
              refine s_splitB (gtS gt24) (ptS pt24) (ptS pt24) (fun hg94 => ?_) (fun hg94 => ?_)
              · skip
                refine s_do (gtS gt24) ?_
                refine s_val rfl (v_mv lk0) (ptS pt25) ?_
                refine s_do (gtS gt24) ?_
                refine s_val rfl (v_mv lk5) (ptS pt26) ?_
                refine s_do (gtS gt24) ?_
                refine s_val rfl (v_ix (lkS lk25) (lkS lk26) (by omega) (by omega)) (ptS pt27) ?_
                refine s_do (gtS gt24) ?_
                refine s_val rfl (v_neq (lkS lk27) lki) (ptS pt28) ?_
                refine s_val rfl (v_pickT (lkS lk24) (lkS lk28)) (ptS pt29) ?_
                refine s_nil ?_
                refine n_seq ?_
                first | refine w_cond (lkS lk29) (fun hc8 => ?_) (fun hc8 => ?_) | refine w_condB (lkS lk29) (fun hc8 => ?_) (fun hc8 => ?_)
                · skip
                  have hb : blkN (byteAt s (p + n)).toNat = false := by have := hg94; rw [Bool.not_eq_true'] at this; exact this
                  have hc8' : ((byteAt s (p + n)).toNat : Int) ≠ 35 := hc8
                  refine w_skip ?_
                  refine n_seq ?_
                  refine w_block ?_
                  refine w_seq ?_
                  refine w_seq ?_
                  refine w_reg ?_
                  refine s_val rfl (v_mv lk0) (ptS pt30) ?_
                  refine s_val rfl (v_mv lk5) (ptS pt31) ?_
                  refine s_val rfl (v_ix (lkS lk30) (lkS lk31) (by omega) (by omega)) (ptS pt32) ?_
                  refine s_callp (mp1 (lkS lk32) mp0) (risPlain_a) (ptS pt33) ?_
                  refine s_val rfl (v_notB (lkS lk33)) (ptS pt34) ?_
                  refine s_val rfl (v_mv (lkS lk34)) (ptS pt35) ?_
                  refine s_splitB (gtS gt35) (ptS pt35) (ptS pt35) (fun hg105 => ?_) (fun hg105 => ?_)
                  · skip
                    have hpl : plnN (byteAt s (p + n)).toNat = false := by have := hg105; rw [Bool.not_eq_true'] at this; exact this
                    have hfp : fldP (byteAt s (p + n)).toNat = true := fldP_of hb hc8' (fun e => by rw [e] at hpl; revert hpl; decide)
                    rw [runL_bad (s := s) (k := p + n) (by omega) hfp hpl] at hn2
                    simp only [Option.map_none] at hn2
                    rw [hn2] at hF
                    rw [fldsT_bad hm hF] at hp2
                    refine s_no (gtS gt35) (ptS pt36) ?_
                    refine s_no (gtS gt35) (ptS pt37) ?_
                    refine s_no (gtS gt35) (ptS pt38) ?_
                    refine s_no (gtS gt35) (ptS pt39) ?_
                    refine s_val rfl (v_pickT (lkS lk35) lkb) (ptS pt40) ?_
                    refine s_nil ?_
                    refine n_seq ?_
                    refine w_condT (lkS lk40) ?_
                    refine w_seq ?_
                    refine w_reg ?_
                    refine s_val rfl (v_mv lkn) pt2 ?_
                    refine s_val rfl (v_mv lki) pt3 ?_
                    refine s_nil ?_
                    refine n_seq ?_
                    refine w_rets ?_
                    refine r_thn ?_
                    refine r_blk ?_
                    refine r_thn ?_
                    refine r_blk ?_
                    refine r_thn ?_
                    refine r_blk ?_
                    refine r_thn ?_
                    refine r_blk ?_
                    refine w_ret (rsn (rm1 (rr_t gt2) (rm1 (rr_t gt3) rm0))) ?_
                    refine rtw (by first | rfl | (simp only [AV.lt, AV.ltL, Ent.lt, List.all_cons, List.all_nil, Bool.and_true, Bool.and_self, decide_true, str_lt]; done) | (simp [AV.lt, AV.ltL, Ent.lt, str_lt, *]; done) | (simp [AV.lt, AV.ltL, Ent.lt, str_lt, *]; omega)) ?_
                    rw [hp2]; exact Wk.tup (wkw Wk.nilF (wk1 rfl wk0))
                  · skip
                    have hpl : plnN (byteAt s (p + n)).toNat = true := by have := hg105; rw [Bool.not_eq_false'] at this; exact this
                    refine s_do (gtS gt35) ?_
                    refine s_val rfl (v_mv lk0) (ptS pt36) ?_
                    refine s_do (gtS gt35) ?_
                    refine s_val rfl (v_mv lk5) (ptS pt37) ?_
                    refine s_do (gtS gt35) ?_
                    refine s_val rfl (v_ix (lkS lk36) (lkS lk37) (by omega) (by omega)) (ptS pt38) ?_
                    refine s_do (gtS gt35) ?_
                    refine s_val rfl (v_eql (lkS lk38) lki) (ptS pt39) ?_
                    refine s_val rfl (v_pickF (lkS lk35) (lkS lk39)) (ptS pt40) ?_
                    refine s_nil ?_
                    refine n_seq ?_
                    first | refine w_cond (lkS lk40) (fun hc9 => ?_) (fun hc9 => ?_) | refine w_condB (lkS lk40) (fun hc9 => ?_) (fun hc9 => ?_)
                    · skip
                      have hc9' : ((byteAt s (p + n)).toNat : Int) = 34 := hc9
                      rw [runL_stop (s := s) (k := p + n) (by omega) (by rw [hc9']; decide)] at hn2
                      simp only [Option.map_some, Nat.zero_add] at hn2
                      rw [hn2] at hF
                      simp only at hF
                      rw [if_pos ⟨by rw [moreL_at, hc9']; simp; omega, by rw [headN_at (by omega), hc9']⟩] at hF
                      rw [fldsT_bad hm hF] at hp2
                      refine w_seq ?_
                      refine w_reg ?_
                      refine s_val rfl (v_mv lkn) pt2 ?_
                      refine s_val rfl (v_mv lki) pt3 ?_
                      refine s_nil ?_
                      refine n_seq ?_
                      refine w_rets ?_
                      refine r_thn ?_
                      refine r_blk ?_
                      refine r_thn ?_
                      refine r_blk ?_
                      refine r_thn ?_
                      refine r_blk ?_
                      refine r_thn ?_
                      refine r_blk ?_
                      refine w_ret (rsn (rm1 (rr_t gt2) (rm1 (rr_t gt3) rm0))) ?_
                      refine rtw (by first | rfl | (simp only [AV.lt, AV.ltL, Ent.lt, List.all_cons, List.all_nil, Bool.and_true, Bool.and_self, decide_true, str_lt]; done) | (simp [AV.lt, AV.ltL, Ent.lt, str_lt, *]; done) | (simp [AV.lt, AV.ltL, Ent.lt, str_lt, *]; omega)) ?_
                      rw [hp2]; exact Wk.tup (wkw Wk.nilF (wk1 rfl wk0))
                    · skip
                      have hc9' : ((byteAt s (p + n)).toNat : Int) ≠ 34 := hc9
                      rw [runL_go (s := s) (k := p + n) (by omega) (fldP_of hb hc8' hc9') hpl] at hn2
                      have hsn := ext_snoc (s := s) (a := p) (n := n) (by omega)
                      refine w_skip ?_
                      refine n_seq ?_
                      refine w_seq ?_
                      refine w_reg ?_
                      refine s_val rfl (v_mv lk6) (ptS pt41) ?_
                      refine s_val rfl (v_mv lk0) (ptS pt42) ?_
                      refine s_val rfl (v_mv lk5) (ptS pt43) ?_
                      refine s_val rfl (v_mv lk5) (ptS pt44) ?_
                      refine s_val rfl (v_add (lkS lk44) lki (by omega) (by omega)) (ptS pt45) ?_
                      refine s_val rfl (v_sls (lkS lk42) (oi (lkS lk43)) (oi (lkS lk45)) (by omega) (by omega) (by omega)) (ptS pt46) ?_
                      refine s_val rfl (v_addS (lkS lk41) (lkS lk46) (by first | omega | (rw [bA_size, List.length_take, ByteArray.size_extract]; omega))) (ptS pt47) ?_
                      refine s_val rfl (v_mv (lkS lk47)) pt6 ?_
                      refine s_nil ?_
                      refine n_seq ?_
                      refine w_reg ?_
                      refine s_val rfl (v_mv lk5) (ptS pt48) ?_
                      refine s_val rfl (v_add (lkS lk48) lki (by omega) (by omega)) (ptS pt49) ?_
                      refine s_val rfl (v_mv (lkS lk49)) pt5 ?_
                      refine s_nil ?_
                      refine n_blk ?_
                      refine n_thn ?_
                      refine LoopTo.mk (n + 1) (by omega) (by (try dsimp only); exact ⟨by omega, by rw [hn2, Option.map_map]; rw [show p + (n + 1) = p + n + 1 from rfl]; congr 1; funext x; simp; omega⟩) (by (try dsimp only); (try simp only [setsT, setsE, List.set_cons_zero, List.set_cons_succ]); exact ALe.same (wk1 rfl (wk1 rfl (wka (wka (wk1 rfl (wk1 (by first | rfl | exact ivx (by omega) | (exact congrArg sv hsn.symm)) (wk1 (by first | rfl | exact ivx (by omega) | (exact congrArg sv hsn.symm)) (wk1 rfl (wk1 rfl (wk1 rfl (wk1 rfl (wk1 rfl (wk1 rfl (wk1 rfl (wk1 rfl (wk1 rfl (wk1 rfl (wk1 rfl (wk1 rfl (wk1 rfl (wk1 rfl (wk1 rfl (wk1 rfl (wk1 rfl (wk1 rfl (wk1 rfl (wk1 rfl (wk1 rfl (wk1 rfl (wk1 rfl (wk1 rfl (wk1 rfl (wk1 rfl (wk1 rfl (wk1 rfl (wk1 rfl (wk1 rfl (wk1 rfl (wk1 rfl (wk1 rfl (wk1 rfl (wk1 rfl (wk1 rfl (wk1 rfl (wk1 rfl (wk1 rfl (wk1 rfl (wk1 rfl (wk1 rfl (wk1 rfl (wk1 rfl (wk1 rfl (wk1 rfl (wk1 rfl (wk1 rfl (wk1 rfl (wk1 rfl (wk1 rfl (wk1 rfl (wk1 rfl (wk1 rfl (wk1 rfl (wk1 rfl (wk1 rfl (wk1 rfl (wk1 rfl (wk1 rfl (wk1 rfl (wk1 rfl (wk1 rfl (wk1 rfl (wk1 rfl (wk1 rfl (wk1 rfl (wk1 rfl (wk1 rfl (wk1 rfl (wk1 rfl (wk1 rfl (wk1 rfl (wk1 rfl (wk1 rfl (wk1 rfl (wka (wka (wka (wka (wka (wka (wka (wka (wka (wka (wka (wka (wka (wka (wka (wka (wka (wka (wka (wka (wka (wka (wka (wka (wka (wka (wka (wka (wka (wka (wka (wka (wka (wka (wka (wka (wka (wk1 rfl (wk1 rfl (wk1 rfl (wk1 rfl (wk1 rfl (wk1 rfl (wk1 rfl (wk1 rfl (wk1 rfl (wk1 rfl (wk1 rfl (wk1 rfl wk0)))))))))))))))))))))))))))))))))))))))))))))))))))))))))))))))))))))))))))))))))))))))))))))))))))))))))))))))))))))))))))))))))))) rfl)
                · skip
                  have hc8' : ((byteAt s (p + n)).toNat : Int) = 35 := Decidable.of_not_not hc8
                  rw [runL_stop (s := s) (k := p + n) (by omega) (by rw [hc8']; decide)] at hn2
                  simp only [Option.map_some, Nat.zero_add] at hn2
                  rw [hn2] at hF
                  simp only at hF
                  rw [if_neg (by rw [headN_at (by omega), hc8']; simp)] at hF
                  refine w_exit ?_
                  refine x_thn ?_
                  refine x_thn ?_
                  refine x_blk ?_
                  refine n_thn ?_
                  exact ⟨(0, n, n), (by exact hF), (by (try dsimp only); (try simp only [setsT, setsE, List.set_cons_zero, List.set_cons_succ]); exact ALe.same (wk1 rfl (wk1 rfl (wka (wka (wk1 rfl (wk1 (by first | rfl | exact ivx (by simp; omega) | (simp [cutF, List.drop_drop]; done)) (wk1 (by first | rfl | exact ivx (by simp; omega) | (simp [cutF, List.drop_drop]; done)) (wk1 rfl (wk1 rfl (wk1 rfl (wk1 rfl (wk1 rfl (wk1 rfl (wk1 rfl (wk1 rfl (wk1 rfl (wk1 rfl (wk1 rfl (wk1 rfl (wk1 rfl (wk1 rfl (wk1 rfl (wk1 rfl (wk1 rfl (wk1 rfl (wk1 rfl (wk1 rfl (wk1 rfl (wk1 rfl (wk1 rfl (wka (wka (wka (wka (wka (wka (wka (wka (wka (wka (wka (wka (wka (wka (wka (wka (wka (wka (wka (wka (wka (wka (wka (wka (wka (wka (wka (wka (wka (wka (wka (wka (wka (wka (wka (wka (wka (wka (wka (wka (wka (wka (wka (wka (wka (wka (wka (wka (wka (wka (wka (wka (wka (wka (wka (wka (wka (wka (wka (wka (wka (wka (wka (wka (wka (wka (wka (wka (wka (wka (wka (wka (wka (wka (wka (wka (wka (wka (wka (wka (wka (wka (wka (wka (wka (wka (wka (wka (wka (wka (wk1 rfl (wk1 rfl (wk1 rfl (wk1 rfl (wk1 rfl (wk1 rfl (wk1 rfl (wk1 rfl (wk1 rfl (wk1 rfl (wk1 rfl (wk1 rfl wk0)))))))))))))))))))))))))))))))))))))))))))))))))))))))))))))))))))))))))))))))))))))))))))))))))))))))))))))))))))))))))))))))))))) rfl)⟩
              · skip
                have hb : blkN (byteAt s (p + n)).toNat = true := by have := hg94; rw [Bool.not_eq_false'] at this; exact this
                rw [runL_stop (s := s) (k := p + n) (by omega) (by unfold fldP; rw [hb]; rfl)] at hn2
                simp only [Option.map_some, Nat.zero_add] at hn2
                rw [hn2] at hF
                simp only at hF
                rw [if_neg (by rw [headN_at (by omega)]; rintro ⟨_, e⟩; rw [e] at hb; revert hb; decide)] at hF
                refine s_no (gtS gt24) (ptS pt25) ?_
                refine s_no (gtS gt24) (ptS pt26) ?_
                refine s_no (gtS gt24) (ptS pt27) ?_
                refine s_no (gtS gt24) (ptS pt28) ?_
                refine s_val rfl (v_pickF (lkS lk24) lkb) (ptS pt29) ?_
                refine s_nil ?_
                refine n_seq ?_
                refine w_condF (lkS lk29) ?_
                refine w_exit ?_
                refine x_thn ?_
                refine x_thn ?_
                refine x_blk ?_
                refine n_thn ?_
                exact ⟨(0, n, n), (by exact hF), (by (try dsimp only); (try simp only [setsT, setsE, List.set_cons_zero, List.set_cons_succ]); exact ALe.same (wk1 rfl (wk1 rfl (wka (wka (wk1 rfl (wk1 (by first | rfl | exact ivx (by simp; omega) | (simp [cutF, List.drop_drop]; done)) (wk1 (by first | rfl | exact ivx (by simp; omega) | (simp [cutF, List.drop_drop]; done)) (wk1 rfl (wk1 rfl (wk1 rfl (wk1 rfl (wk1 rfl (wk1 rfl (wk1 rfl (wk1 rfl (wk1 rfl (wk1 rfl (wk1 rfl (wk1 rfl (wk1 rfl (wk1 rfl (wk1 rfl (wk1 rfl (wk1 rfl (wk1 rfl (wk1 rfl (wk1 rfl (wk1 rfl (wk1 rfl (wk1 rfl (wka (wka (wka (wka (wka (wka (wka (wka (wka (wka (wka (wka (wka (wka (wka (wka (wka (wka (wka (wka (wka (wka (wka (wka (wka (wka (wka (wka (wka (wka (wka (wka (wka (wka (wka (wka (wka (wka (wka (wka (wka (wka (wka (wka (wka (wka (wka (wka (wka (wka (wka (wka (wka (wka (wka (wka (wka (wka (wka (wka (wka (wka (wka (wka (wka (wka (wka (wka (wka (wka (wka (wka (wka (wka (wka (wka (wka (wka (wka (wka (wka (wka (wka (wka (wka (wka (wka (wka (wka (wka (wk1 rfl (wk1 rfl (wk1 rfl (wk1 rfl (wk1 rfl (wk1 rfl (wk1 rfl (wk1 rfl (wk1 rfl (wk1 rfl (wk1 rfl (wk1 rfl wk0)))))))))))))))))))))))))))))))))))))))))))))))))))))))))))))))))))))))))))))))))))))))))))))))))))))))))))))))))))))))))))))))))))) rfl)⟩
            · skip
              rw [runL_end (s := s) (k := p + n) (by omega)] at hn2
              simp only [Option.map_some, Nat.zero_add] at hn2
              rw [hn2] at hF
              simp only at hF
              rw [if_neg (by rw [moreL_at]; simp; omega)] at hF
              refine s_no (gtS gt17) (ptS pt18) ?_
              refine s_no (gtS gt17) (ptS pt19) ?_
              refine s_no (gtS gt17) (ptS pt20) ?_
              refine s_no (gtS gt17) (ptS pt21) ?_
              refine s_no (gtS gt17) (ptS pt22) ?_
              refine s_val rfl (v_pickF (lkS lk17) lkb) (ptS pt23) ?_
              refine s_val rfl (v_mv (lkS lk23)) (ptS pt24) ?_
              refine s_no (gtS gt24) (ptS pt25) ?_
              refine s_no (gtS gt24) (ptS pt26) ?_
              refine s_no (gtS gt24) (ptS pt27) ?_
              refine s_no (gtS gt24) (ptS pt28) ?_
              refine s_val rfl (v_pickF (lkS lk24) lkb) (ptS pt29) ?_
              refine s_nil ?_
              refine n_seq ?_
              refine w_condF (lkS lk29) ?_
              refine w_exit ?_
              refine x_thn ?_
              refine x_thn ?_
              refine x_blk ?_
              refine n_thn ?_
              exact ⟨(0, n, n), (by exact hF), (by (try dsimp only); (try simp only [setsT, setsE, List.set_cons_zero, List.set_cons_succ]); exact ALe.same (wk1 rfl (wk1 rfl (wka (wka (wk1 rfl (wk1 (by first | rfl | exact ivx (by simp; omega) | (simp [cutF, List.drop_drop]; done)) (wk1 (by first | rfl | exact ivx (by simp; omega) | (simp [cutF, List.drop_drop]; done)) (wk1 rfl (wk1 rfl (wk1 rfl (wk1 rfl (wk1 rfl (wk1 rfl (wk1 rfl (wk1 rfl (wk1 rfl (wk1 rfl (wk1 rfl (wk1 rfl (wk1 rfl (wk1 rfl (wk1 rfl (wk1 rfl (wk1 rfl (wk1 rfl (wk1 rfl (wk1 rfl (wk1 rfl (wk1 rfl (wk1 rfl (wka (wka (wka (wka (wka (wka (wka (wka (wka (wka (wka (wka (wka (wka (wka (wka (wka (wka (wka (wka (wka (wka (wka (wka (wka (wka (wka (wka (wka (wka (wka (wka (wka (wka (wka (wka (wka (wka (wka (wka (wka (wka (wka (wka (wka (wka (wka (wka (wka (wka (wka (wka (wka (wka (wka (wka (wka (wka (wka (wka (wka (wka (wka (wka (wka (wka (wka (wka (wka (wka (wka (wka (wka (wka (wka (wka (wka (wka (wka (wka (wka (wka (wka (wka (wka (wka (wka (wka (wka (wka (wk1 rfl (wk1 rfl (wk1 rfl (wk1 rfl (wk1 rfl (wk1 rfl (wk1 rfl (wk1 rfl (wk1 rfl (wk1 rfl (wk1 rfl (wk1 rfl wk0)))))))))))))))))))))))))))))))))))))))))))))))))))))))))))))))))))))))))))))))))))))))))))))))))))))))))))))))))))))))))))))))))))) rfl)⟩
        · rintro y hq32
          try simp only [setsT, setsE, List.set_cons_zero, List.set_cons_succ]
          skip
          refine w_seq ?_
          refine w_reg ?_
          refine s_val rfl (v_mv lk4) (ptS pt50) ?_
          refine s_val rfl (v_mv lk6) (ptS pt51) ?_
          refine s_eff rfl rfl (e_lit (LineR_FieldsOf_138 (cvl (lkS lk51) rfl) rfl) (hl1 hn) ha1) (ptS pt52) ?_
          refine s_eff rfl rfl (e_app (sc_own (lkS lk52) (hga hn rfl) rfl LineR_tk_1 (Nat.le_of_ble_eq_true rfl)) (lkS lk50) (hga hn rfl) (str_len _) (by omega) rfl (hs0 hn)) (ptS pt53) ?_
          refine s_val rfl (v_mv (lkS lk53)) pt4 ?_
          refine s_nil ?_
          refine n_seq ?_
          refine w_seq ?_
          refine w_reg ?_
          refine s_val rfl (v_mv lk6) (ptS pt54) ?_
          refine s_val rfl (v_lenS (lkS lk54)) (ptS pt55) ?_
          refine s_val rfl (v_gtr (lkS lk55) lki) (ptS pt56) ?_
          refine s_val rfl (v_mv (lkS lk56)) (ptS pt57) ?_
          first | refine s_splitP (gtS gt57) (ptS pt57) (ptS pt57) (fun hg127 => ?_) (fun hg127 => ?_) | refine s_splitB (gtS gt57) (ptS pt57) (ptS pt57) (fun hg127 => ?_) (fun hg127 => ?_)
          · skip
            have hcs := cutF_size hq32
            rw [hcs] at hg127; rw [fldsT_many hm hq32 (.inl (by omega))] at hp2
            refine s_no (gtS gt57) (ptS pt58) ?_
            refine s_no (gtS gt57) (ptS pt59) ?_
            refine s_no (gtS gt57) (ptS pt60) ?_
            refine s_val rfl (v_pickT (lkS lk57) lkb) (ptS pt61) ?_
            refine s_nil ?_
            refine n_seq ?_
            refine w_condT (lkS lk61) ?_
            refine w_seq ?_
            refine w_reg ?_
            refine s_val rfl (v_mv lkn) pt2 ?_
            refine s_val rfl (v_mv lki) pt3 ?_
            refine s_nil ?_
            refine n_seq ?_
            refine w_rets ?_
            refine r_blk ?_
            refine r_thn ?_
            refine r_blk ?_
            refine w_ret (rsn (rm1 (rr_t gt2) (rm1 (rr_t gt3) rm0))) ?_
            refine rtw (by first | rfl | (simp only [AV.lt, AV.ltL, Ent.lt, List.all_cons, List.all_nil, Bool.and_true, Bool.and_self, decide_true, str_lt]; done) | (simp [AV.lt, AV.ltL, Ent.lt, str_lt, *]; done) | (simp [AV.lt, AV.ltL, Ent.lt, str_lt, *]; omega)) ?_
            rw [hp2]; exact Wk.tup (wkw Wk.nilF (wk1 rfl wk0))
          · skip
            have hcs := cutF_size hq32
            rw [hcs] at hg127
            refine s_do (gtS gt57) ?_
            refine s_val rfl (v_mv lk4) (ptS pt58) ?_
            refine s_do (gtS gt57) ?_
            refine s_val rfl (v_lenO (lkS lk58)) (ptS pt59) ?_
            refine s_do (gtS gt57) ?_
            refine s_val rfl (v_gtr (lkS lk59) lki) (ptS pt60) ?_
            refine s_val rfl (v_pickF (lkS lk57) (lkS lk60)) (ptS pt61) ?_
            refine s_nil ?_
            refine n_seq ?_
            first | refine w_cond (lkS lk61) (fun hc10 => ?_) (fun hc10 => ?_) | refine w_condB (lkS lk61) (fun hc10 => ?_) (fun hc10 => ?_)
            · skip
              rw [fldsT_many hm hq32 (.inr (by omega))] at hp2
              refine w_seq ?_
              refine w_reg ?_
              refine s_val rfl (v_mv lkn) pt2 ?_
              refine s_val rfl (v_mv lki) pt3 ?_
              refine s_nil ?_
              refine n_seq ?_
              refine w_rets ?_
              refine r_blk ?_
              refine r_thn ?_
              refine r_blk ?_
              refine w_ret (rsn (rm1 (rr_t gt2) (rm1 (rr_t gt3) rm0))) ?_
              refine rtw (by first | rfl | (simp only [AV.lt, AV.ltL, Ent.lt, List.all_cons, List.all_nil, Bool.and_true, Bool.and_self, decide_true, str_lt]; done) | (simp [AV.lt, AV.ltL, Ent.lt, str_lt, *]; done) | (simp [AV.lt, AV.ltL, Ent.lt, str_lt, *]; omega)) ?_
              rw [hp2]; exact Wk.tup (wkw Wk.nilF (wk1 rfl wk0))
            · skip
              have hle := fieldL_le hq32
              have hL : ((aB s).drop p).length = s.size - p := by rw [List.length_drop, aB_len]
              obtain ⟨m', rfl⟩ : ∃ m', m = m' + 1 := ⟨m - 1, by omega⟩
              rw [fldsT_at hm hq32 (by omega)] at hp2
              refine w_skip ?_
              refine n_blk ?_
              refine n_thn ?_
              refine LoopTo.mk (⟨p + y.2.2, fs ++ [cutF ((aB s).drop p) y], v + 1, m'⟩) (by exact Nat.lt_succ_self _) (by (try dsimp only); exact ⟨by omega, by simp; omega, by rw [fldsL_T, List.drop_drop]; exact hp2⟩) (by (try dsimp only); (try simp only [setsT, setsE, List.set_cons_zero, List.set_cons_succ]); exact ALe.back (wk1 rfl (wk1 rfl (wka (wka (wk1 (by first | rfl | exact ivx (by omega) | (simp; done)) (wk1 (by first | rfl | exact ivx (by omega) | (simp; done)) (wka (wka (wka (wka (wka (wka (wka (wka (wka (wka (wka (wka (wka (wka (wka (wka (wka (wka (wka (wka (wka (wka (wka (wka (wka (wka (wka (wka (wka (wka (wka (wka (wka (wka (wka (wka (wka (wka (wka (wka (wka (wka (wka (wka (wka (wka (wka (wka (wka (wka (wka (wka (wka (wka (wka (wka (wka (wka (wka (wka (wka (wka (wka (wka (wka (wka (wka (wka (wka (wka (wka (wka (wka (wka (wka (wka (wka (wka (wka (wka (wka (wka (wka (wka (wka (wka (wka (wka (wka (wka (wka (wka (wka (wka (wka (wka (wka (wka (wka (wka (wka (wka (wka (wka (wka (wka (wka (wka (wka (wka (wka (wka (wka (wka (wka (wka (wka (wka (wka (wka (wka (wka (wka (wka (wka (wka wk0)))))))))))))))))))))))))))))))))))))))))))))))))))))))))))))))))))))))))))))))))))))))))))))))))))))))))))))))))))))))))))))))))))) (by simp only [rows_app, rows_one, strC]; rfl) (k := N + 1) (by simp only [List.length_cons, List.length_nil, hn]) (by omega) (by first | rfl | (simp only [AV.lt, AV.ltL, Ent.lt, List.all_cons, List.all_nil, Bool.and_true, Bool.and_self, decide_true, str_lt]; done) | (simp [AV.lt, AV.ltL, Ent.lt, str_lt, *]; done) | (simp [AV.lt, AV.ltL, Ent.lt, str_lt, *]; omega)) (ltw (by omega) hlt) (by first | rfl | (simp only [AV.lt, AV.ltL, Ent.lt, List.all_cons, List.all_nil, Bool.and_true, Bool.and_self, decide_true, str_lt]; done) | (simp [AV.lt, AV.ltL, Ent.lt, str_lt, *]; done) | (simp [AV.lt, AV.ltL, Ent.lt, str_lt, *]; omega)))
end Go.Proofs.YtgjchdhdopgkkaaDoor
