/-
  Contracts on plain data: the reference's lines of a text, sameness of lines. Conditions: those that each theorem names.
-/
import Derived.Test.YtgjchdhdopgkkaaDoorLineR
set_option linter.unusedVariables false
set_option linter.unusedSimpArgs false
set_option maxRecDepth 100000
namespace Go.Proofs.YtgjchdhdopgkkaaDoor
open Go.Ab
section
theorem LineS_SplitOf_55 {τ : Operand → AV} {y0 y1 y2 : Operand} {x0_0 x1_0 x2_0 : AV} (h0 : cellsV (τ y0) = some [x0_0]) (l0 : [x0_0].all leaf = true) (h1 : cellsV (τ y1) = some [x1_0]) (l1 : [x1_0].all leaf = true) (h2 : cellsV (τ y2) = some [x2_0]) (l2 : [x2_0].all leaf = true) : fillAV τ [(0, 1, y0), (1, 1, y1), (2, 1, y2)] [(.v (.int .i64 0)), (.v (.bool false)), (.sl 0 0 true [])] = some [x0_0, x1_0, x2_0] := by
  simp only [fillAV, h0, l0, h1, l1, h2, l2]
  rfl
theorem LineS_SplitOf_56 {τ : Operand → AV} {y0 : Operand} {x0_0 x0_1 x0_2 : AV} (h0 : cellsV (τ y0) = some [x0_0, x0_1, x0_2]) (l0 : [x0_0, x0_1, x0_2].all leaf = true) : fillAV τ [(0, 3, y0)] [(.v (.int .i64 0)), (.v (.bool false)), (.sl 0 0 true [])] = some [x0_0, x0_1, x0_2] := by
  simp only [fillAV, h0, l0]
  rfl
theorem LineS_tk_3 {a0 a1 a2 : AV} {l : List AV} : (a0 :: a1 :: a2 :: l).take 3 = [a0, a1, a2] := rfl
end
/-- datelineref.SplitOf -/
def c10 : AC := (.seq (.reg [⟨(some 2), none, (.mv (.const (.slice none 0 0)))⟩, ⟨(some 3), none, (.mv (.const (.int .i64 0)))⟩, ⟨(some 4), none, (.mv (.const (.int .i64 0)))⟩]) (.seq (.seq (.reg [⟨(some 11), none, (.mv (.tmp 0))⟩, ⟨(some 12), none, (.len true (.tmp 11))⟩, ⟨(some 13), none, (.bin .gtr (.tmp 12) (.const (.int .i64 8000)))⟩]) (.cond (.tmp 13) (.seq (.reg [⟨(some 2), none, (.mv (.const (.slice none 0 0)))⟩, ⟨(some 3), none, (.mv (.const (.int .i64 0)))⟩, ⟨(some 4), none, (.mv (.const (.int .i64 2)))⟩]) .ret) .skip)) (.seq (.reg [⟨(some 5), none, (.mv (.const (.slice none 0 0)))⟩]) (.seq (.reg [⟨(some 6), none, (.mv (.const (.int .i64 0)))⟩, ⟨(some 7), none, (.mv (.const (.int .i64 1)))⟩]) (.seq (.seq (.reg [⟨(some 8), none, (.mv (.const (.int .i64 0)))⟩]) (.block 0 (.loop (.seq (.seq (.reg [⟨(some 14), none, (.mv (.tmp 8))⟩, ⟨(some 15), none, (.mv (.tmp 0))⟩, ⟨(some 16), none, (.len true (.tmp 15))⟩, ⟨(some 17), none, (.bin .leq (.tmp 14) (.tmp 16))⟩]) (.cond (.tmp 17) .skip (.exit 0))) (.seq (.block 1 (.seq (.seq (.reg [⟨(some 20), none, (.mv (.tmp 8))⟩, ⟨(some 21), none, (.mv (.tmp 0))⟩, ⟨(some 22), none, (.len true (.tmp 21))⟩, ⟨(some 23), none, (.bin .lss (.tmp 20) (.tmp 22))⟩, ⟨(some 24), none, (.mv (.tmp 23))⟩, ⟨(some 25), (some (24, true)), (.mv (.tmp 0))⟩, ⟨(some 26), (some (24, true)), (.mv (.tmp 8))⟩, ⟨(some 27), (some (24, true)), (.ix (.tmp 25) (.tmp 26))⟩, ⟨(some 28), (some (24, true)), (.bin .neq (.tmp 27) (.const (.int .u8 10)))⟩, ⟨(some 29), none, (.pick (.tmp 24) (.tmp 28) (.const (.bool false)))⟩]) (.cond (.tmp 29) (.exit 1) .skip)) (.seq (.reg [⟨(some 31), none, (.mv (.tmp 0))⟩, ⟨(some 32), none, (.mv (.tmp 6))⟩, ⟨(some 33), none, (.mv (.tmp 8))⟩, ⟨(some 34), none, (.sls (.tmp 31) (some (.tmp 32)) (some (.tmp 33)))⟩, ⟨(some 35), none, (.call (.func 16) [(.tmp 34)])⟩, ⟨(some 30), none, (.mv (.tmp 35))⟩, ⟨(some 36), none, (.ext (.tmp 30) 0)⟩, ⟨(some 37), none, (.ext (.tmp 30) 1)⟩, ⟨(some 9), none, (.mv (.tmp 36))⟩, ⟨(some 10), none, (.mv (.tmp 37))⟩]) (.seq (.seq (.reg [⟨(some 38), none, (.mv (.tmp 10))⟩, ⟨(some 39), none, (.bin .neq (.tmp 38) (.const (.int .i64 0)))⟩]) (.cond (.tmp 39) (.seq (.reg [⟨(some 40), none, (.mv (.tmp 7))⟩, ⟨(some 41), none, (.mv (.tmp 10))⟩, ⟨(some 2), none, (.mv (.const (.slice none 0 0)))⟩, ⟨(some 3), none, (.mv (.tmp 40))⟩, ⟨(some 4), none, (.mv (.tmp 41))⟩]) .ret) .skip)) (.seq (.seq (.reg [⟨(some 42), none, (.mv (.tmp 9))⟩, ⟨(some 43), none, (.len false (.tmp 42))⟩, ⟨(some 44), none, (.bin .gtr (.tmp 43) (.const (.int .i64 0)))⟩]) (.cond (.tmp 44) (.reg [⟨(some 45), none, (.mv (.tmp 5))⟩, ⟨(some 46), none, (.mv (.tmp 7))⟩, ⟨(some 47), none, (.mv (.tmp 0))⟩, ⟨(some 48), none, (.mv (.tmp 6))⟩, ⟨(some 49), none, (.ix (.tmp 47) (.tmp 48))⟩, ⟨(some 50), none, (.call (.func 17) [(.tmp 49)])⟩, ⟨(some 51), none, (.mv (.tmp 9))⟩, ⟨(some 52), none, (.build [(.v (.int .i64 0)), (.v (.bool false)), (.sl 0 0 true [])] [(0, (1, (.tmp 46))), (1, (1, (.tmp 50))), (2, (1, (.tmp 51)))])⟩, ⟨(some 53), none, (.lit 29 3 1 [(.v (.int .i64 0)), (.v (.bool false)), (.sl 0 0 true [])] [(0, (3, (.tmp 52)))])⟩, ⟨(some 54), none, (.app 29 3 40 (.tmp 45) (.tmp 53))⟩, ⟨(some 5), none, (.mv (.tmp 54))⟩]) .skip)) (.seq (.reg [⟨(some 55), none, (.mv (.tmp 8))⟩, ⟨(some 56), none, (.bin .add (.tmp 55) (.const (.int .i64 1)))⟩, ⟨(some 6), none, (.mv (.tmp 56))⟩]) (.reg [⟨(some 57), none, (.mv (.tmp 7))⟩, ⟨(some 58), none, (.bin .add (.tmp 57) (.const (.int .i64 1)))⟩, ⟨(some 7), none, (.mv (.tmp 58))⟩]))))))) (.reg [⟨(some 18), none, (.mv (.tmp 8))⟩, ⟨(some 19), none, (.bin .add (.tmp 18) (.const (.int .i64 1)))⟩, ⟨(some 8), none, (.mv (.tmp 19))⟩])))))) (.seq (.seq (.reg [⟨(some 59), none, (.mv (.tmp 5))⟩, ⟨(some 60), none, (.len false (.tmp 59))⟩, ⟨(some 61), none, (.bin .gtr (.tmp 60) (.const (.int .i64 200)))⟩]) (.cond (.tmp 61) (.seq (.reg [⟨(some 2), none, (.mv (.const (.slice none 0 0)))⟩, ⟨(some 3), none, (.mv (.const (.int .i64 0)))⟩, ⟨(some 4), none, (.mv (.const (.int .i64 2)))⟩]) .ret) .skip)) (.seq (.reg [⟨(some 62), none, (.mv (.tmp 5))⟩, ⟨(some 2), none, (.mv (.tmp 62))⟩, ⟨(some 3), none, (.mv (.const (.int .i64 0)))⟩, ⟨(some 4), none, (.mv (.const (.int .i64 0)))⟩]) .ret)))))))
theorem k10 : compF Tryd.prog 10 = some ⟨c10, [(.tmp 2), (.tmp 3), (.tmp 4)], 63⟩ := by kernel_rfl
theorem i10 {a0 : AV} {h : AH} {R : AE → Prop} (hw : ∀ n, h.length = n → (∀ e ∈ h, e.lt n = true) → AV.ltL n [a0] = true → AV.bdL [a0] → aw Tryd.prog n c10 (retA [(.tmp 2), (.tmp 3), (.tmp 4)] fun x h' => ∃ z, h' = h ++ z ∧ x.lt n = true ∧ R x) [a0, .any, .any, .any, .any, .any, .any, .any, .any, .any, .any, .any, .any, .any, .any, .any, .any, .any, .any, .any, .any, .any, .any, .any, .any, .any, .any, .any, .any, .any, .any, .any, .any, .any, .any, .any, .any, .any, .any, .any, .any, .any, .any, .any, .any, .any, .any, .any, .any, .any, .any, .any, .any, .any, .any, .any, .any, .any, .any, .any, .any, .any, .any] (h ++ [])) : ACalls Tryd.prog 10 [a0] h fun x h' => h' = h ∧ R x := ACalls.into k10 rfl hw
theorem w10 {a0 : AV} {h : AH} {res : AV} (hw : ∀ n, h.length = n → (∀ e ∈ h, e.lt n = true) → AV.ltL n [a0] = true → AV.bdL [a0] → aw Tryd.prog n c10 (retA [(.tmp 2), (.tmp 3), (.tmp 4)] fun x h' => ∃ z, h' = h ++ z ∧ x.lt n = true ∧ ∃ c, x = .ret c ∧ Wk c res) [a0, .any, .any, .any, .any, .any, .any, .any, .any, .any, .any, .any, .any, .any, .any, .any, .any, .any, .any, .any, .any, .any, .any, .any, .any, .any, .any, .any, .any, .any, .any, .any, .any, .any, .any, .any, .any, .any, .any, .any, .any, .any, .any, .any, .any, .any, .any, .any, .any, .any, .any, .any, .any, .any, .any, .any, .any, .any, .any, .any, .any, .any, .any] (h ++ [])) : ACalls Tryd.prog 10 [a0] h fun x h' => h' = h ∧ x = .ret res := ACalls.weak (ACalls.into k10 rfl hw)
theorem n10 {a0 : AV} {h : AH} {R : AE → AH → Prop} (hw : ∀ n, h.length = n → (∀ e ∈ h, e.lt n = true) → AV.ltL n [a0] = true → AV.bdL [a0] → aw Tryd.prog n c10 (retA [(.tmp 2), (.tmp 3), (.tmp 4)] R) [a0, .any, .any, .any, .any, .any, .any, .any, .any, .any, .any, .any, .any, .any, .any, .any, .any, .any, .any, .any, .any, .any, .any, .any, .any, .any, .any, .any, .any, .any, .any, .any, .any, .any, .any, .any, .any, .any, .any, .any, .any, .any, .any, .any, .any, .any, .any, .any, .any, .any, .any, .any, .any, .any, .any, .any, .any, .any, .any, .any, .any, .any, .any] (h ++ [])) : ACalls Tryd.prog 10 [a0] h R := ACalls.intoN k10 rfl hw
theorem j10 {a0 : AV} {h : AH} {R : AE → AH → Prop} (hw : ∀ n, h.length = n → (∀ e ∈ h, e.lt n = true) → AV.ltL n [a0] = true → AV.bdL [a0] → aw Tryd.prog n c10 (retA [(.tmp 2), (.tmp 3), (.tmp 4)] fun x h' => ∃ y z, h' = y ++ z ∧ y.length = n ∧ (∀ e ∈ y, e.lt n = true) ∧ x.lt n = true ∧ R x y) [a0, .any, .any, .any, .any, .any, .any, .any, .any, .any, .any, .any, .any, .any, .any, .any, .any, .any, .any, .any, .any, .any, .any, .any, .any, .any, .any, .any, .any, .any, .any, .any, .any, .any, .any, .any, .any, .any, .any, .any, .any, .any, .any, .any, .any, .any, .any, .any, .any, .any, .any, .any, .any, .any, .any, .any, .any, .any, .any, .any, .any, .any, .any] (h ++ [])) : ACalls Tryd.prog 10 [a0] h R := ACalls.intoG k10 rfl hw
/-- datelineref.SameLines -/
def c9 : AC := (.seq (.reg [⟨(some 6), none, (.mv (.const (.bool false)))⟩]) (.seq (.seq (.reg [⟨(some 9), none, (.mv (.tmp 0))⟩, ⟨(some 10), none, (.len false (.tmp 9))⟩, ⟨(some 11), none, (.mv (.tmp 1))⟩, ⟨(some 12), none, (.len false (.tmp 11))⟩, ⟨(some 13), none, (.bin .neq (.tmp 10) (.tmp 12))⟩]) (.cond (.tmp 13) (.seq (.reg [⟨(some 6), none, (.mv (.const (.bool false)))⟩]) .ret) .skip)) (.seq (.seq (.reg [⟨(some 7), none, (.mv (.const (.int .i64 0)))⟩]) (.block 0 (.loop (.seq (.seq (.reg [⟨(some 14), none, (.mv (.tmp 7))⟩, ⟨(some 15), none, (.mv (.tmp 0))⟩, ⟨(some 16), none, (.len false (.tmp 15))⟩, ⟨(some 17), none, (.bin .lss (.tmp 14) (.tmp 16))⟩]) (.cond (.tmp 17) .skip (.exit 0))) (.seq (.block 1 (.seq (.seq (.drw [⟨(some 20), none, (.mv (.tmp 2))⟩, ⟨(some 21), none, (.mv (.tmp 20))⟩, ⟨(some 22), (some (21, true)), (.mv (.tmp 0))⟩, ⟨(some 23), (some (21, true)), (.mv (.tmp 7))⟩, ⟨(some 24), (some (21, true)), (.ia 3 (.tmp 22) (.tmp 23))⟩, ⟨(some 25), (some (21, true)), (.fa 0 (.tmp 24))⟩, ⟨(some 26), (some (21, true)), (.load false 1 (.tmp 25))⟩, ⟨(some 27), (some (21, true)), (.mv (.tmp 1))⟩, ⟨(some 28), (some (21, true)), (.mv (.tmp 7))⟩, ⟨(some 29), (some (21, true)), (.ia 3 (.tmp 27) (.tmp 28))⟩, ⟨(some 30), (some (21, true)), (.fa 0 (.tmp 29))⟩, ⟨(some 31), (some (21, true)), (.load false 1 (.tmp 30))⟩, ⟨(some 32), (some (21, true)), (.bin .neq (.tmp 26) (.tmp 31))⟩, ⟨(some 33), none, (.pick (.tmp 21) (.tmp 32) (.const (.bool false)))⟩, ⟨(some 34), none, (.mv (.tmp 33))⟩, ⟨(some 35), (some (34, false)), (.mv (.tmp 0))⟩, ⟨(some 36), (some (34, false)), (.mv (.tmp 7))⟩, ⟨(some 37), (some (34, false)), (.ia 3 (.tmp 35) (.tmp 36))⟩, ⟨(some 38), (some (34, false)), (.fa 1 (.tmp 37))⟩, ⟨(some 39), (some (34, false)), (.load false 1 (.tmp 38))⟩, ⟨(some 40), (some (34, false)), (.mv (.tmp 1))⟩, ⟨(some 41), (some (34, false)), (.mv (.tmp 7))⟩, ⟨(some 42), (some (34, false)), (.ia 3 (.tmp 40) (.tmp 41))⟩, ⟨(some 43), (some (34, false)), (.fa 1 (.tmp 42))⟩, ⟨(some 44), (some (34, false)), (.load false 1 (.tmp 43))⟩, ⟨(some 45), (some (34, false)), (.eqb true (.tmp 39) (.tmp 44))⟩, ⟨(some 46), none, (.pick (.tmp 34) (.const (.bool true)) (.tmp 45))⟩, ⟨(some 47), none, (.mv (.tmp 46))⟩, ⟨(some 48), (some (47, false)), (.mv (.tmp 0))⟩, ⟨(some 49), (some (47, false)), (.mv (.tmp 7))⟩, ⟨(some 50), (some (47, false)), (.ia 3 (.tmp 48) (.tmp 49))⟩, ⟨(some 51), (some (47, false)), (.fa 2 (.tmp 50))⟩, ⟨(some 52), (some (47, false)), (.load false 1 (.tmp 51))⟩, ⟨(some 53), (some (47, false)), (.len false (.tmp 52))⟩, ⟨(some 54), (some (47, false)), (.mv (.tmp 1))⟩, ⟨(some 55), (some (47, false)), (.mv (.tmp 7))⟩, ⟨(some 56), (some (47, false)), (.ia 3 (.tmp 54) (.tmp 55))⟩, ⟨(some 57), (some (47, false)), (.fa 2 (.tmp 56))⟩, ⟨(some 58), (some (47, false)), (.load false 1 (.tmp 57))⟩, ⟨(some 59), (some (47, false)), (.len false (.tmp 58))⟩, ⟨(some 60), (some (47, false)), (.bin .neq (.tmp 53) (.tmp 59))⟩, ⟨(some 61), none, (.pick (.tmp 47) (.const (.bool true)) (.tmp 60))⟩] [] []) (.cond (.tmp 61) (.seq (.reg [⟨(some 6), none, (.mv (.const (.bool false)))⟩]) .ret) .skip)) (.seq (.reg [⟨(some 8), none, (.mv (.const (.int .i64 0)))⟩]) (.block 2 (.loop (.seq (.seq (.reg [⟨(some 62), none, (.mv (.tmp 8))⟩, ⟨(some 63), none, (.mv (.tmp 0))⟩, ⟨(some 64), none, (.mv (.tmp 7))⟩, ⟨(some 65), none, (.ia 3 (.tmp 63) (.tmp 64))⟩, ⟨(some 66), none, (.fa 2 (.tmp 65))⟩, ⟨(some 67), none, (.load false 1 (.tmp 66))⟩, ⟨(some 68), none, (.len false (.tmp 67))⟩, ⟨(some 69), none, (.bin .lss (.tmp 62) (.tmp 68))⟩]) (.cond (.tmp 69) .skip (.exit 2))) (.seq (.block 3 (.seq (.drw [⟨(some 72), none, (.mv (.tmp 0))⟩, ⟨(some 73), none, (.mv (.tmp 7))⟩, ⟨(some 74), none, (.ia 3 (.tmp 72) (.tmp 73))⟩, ⟨(some 75), none, (.fa 2 (.tmp 74))⟩, ⟨(some 76), none, (.load false 1 (.tmp 75))⟩, ⟨(some 77), none, (.mv (.tmp 8))⟩, ⟨(some 78), none, (.ia 1 (.tmp 76) (.tmp 77))⟩, ⟨(some 79), none, (.load false 1 (.tmp 78))⟩, ⟨(some 80), none, (.mv (.tmp 1))⟩, ⟨(some 81), none, (.mv (.tmp 7))⟩, ⟨(some 82), none, (.ia 3 (.tmp 80) (.tmp 81))⟩, ⟨(some 83), none, (.fa 2 (.tmp 82))⟩, ⟨(some 84), none, (.load false 1 (.tmp 83))⟩, ⟨(some 85), none, (.mv (.tmp 8))⟩, ⟨(some 86), none, (.ia 1 (.tmp 84) (.tmp 85))⟩, ⟨(some 87), none, (.load false 1 (.tmp 86))⟩, ⟨(some 88), none, (.bin .neq (.tmp 79) (.tmp 87))⟩] [] []) (.cond (.tmp 88) (.seq (.reg [⟨(some 6), none, (.mv (.const (.bool false)))⟩]) .ret) .skip))) (.reg [⟨(some 70), none, (.mv (.tmp 8))⟩, ⟨(some 71), none, (.bin .add (.tmp 70) (.const (.int .i64 1)))⟩, ⟨(some 8), none, (.mv (.tmp 71))⟩])))))))) (.reg [⟨(some 18), none, (.mv (.tmp 7))⟩, ⟨(some 19), none, (.bin .add (.tmp 18) (.const (.int .i64 1)))⟩, ⟨(some 7), none, (.mv (.tmp 19))⟩])))))) (.seq (.reg [⟨(some 6), none, (.mv (.const (.bool true)))⟩]) .ret))))
theorem k9 : compF Tryd.prog 9 = some ⟨c9, [(.tmp 6)], 89⟩ := by kernel_rfl
theorem i9 {a0 a1 a2 : AV} {h : AH} {R : AE → Prop} (hw : ∀ n, h.length = n → (∀ e ∈ h, e.lt n = true) → AV.ltL n [a0, a1, a2] = true → AV.bdL [a0, a1, a2] → aw Tryd.prog n c9 (retA [(.tmp 6)] fun x h' => ∃ z, h' = h ++ z ∧ x.lt n = true ∧ R x) [a0, a1, a2, .any, .any, .any, .any, .any, .any, .any, .any, .any, .any, .any, .any, .any, .any, .any, .any, .any, .any, .any, .any, .any, .any, .any, .any, .any, .any, .any, .any, .any, .any, .any, .any, .any, .any, .any, .any, .any, .any, .any, .any, .any, .any, .any, .any, .any, .any, .any, .any, .any, .any, .any, .any, .any, .any, .any, .any, .any, .any, .any, .any, .any, .any, .any, .any, .any, .any, .any, .any, .any, .any, .any, .any, .any, .any, .any, .any, .any, .any, .any, .any, .any, .any, .any, .any, .any, .any] (h ++ [])) : ACalls Tryd.prog 9 [a0, a1, a2] h fun x h' => h' = h ∧ R x := ACalls.into k9 rfl hw
theorem w9 {a0 a1 a2 : AV} {h : AH} {res : AV} (hw : ∀ n, h.length = n → (∀ e ∈ h, e.lt n = true) → AV.ltL n [a0, a1, a2] = true → AV.bdL [a0, a1, a2] → aw Tryd.prog n c9 (retA [(.tmp 6)] fun x h' => ∃ z, h' = h ++ z ∧ x.lt n = true ∧ ∃ c, x = .ret c ∧ Wk c res) [a0, a1, a2, .any, .any, .any, .any, .any, .any, .any, .any, .any, .any, .any, .any, .any, .any, .any, .any, .any, .any, .any, .any, .any, .any, .any, .any, .any, .any, .any, .any, .any, .any, .any, .any, .any, .any, .any, .any, .any, .any, .any, .any, .any, .any, .any, .any, .any, .any, .any, .any, .any, .any, .any, .any, .any, .any, .any, .any, .any, .any, .any, .any, .any, .any, .any, .any, .any, .any, .any, .any, .any, .any, .any, .any, .any, .any, .any, .any, .any, .any, .any, .any, .any, .any, .any, .any, .any, .any] (h ++ [])) : ACalls Tryd.prog 9 [a0, a1, a2] h fun x h' => h' = h ∧ x = .ret res := ACalls.weak (ACalls.into k9 rfl hw)
theorem n9 {a0 a1 a2 : AV} {h : AH} {R : AE → AH → Prop} (hw : ∀ n, h.length = n → (∀ e ∈ h, e.lt n = true) → AV.ltL n [a0, a1, a2] = true → AV.bdL [a0, a1, a2] → aw Tryd.prog n c9 (retA [(.tmp 6)] R) [a0, a1, a2, .any, .any, .any, .any, .any, .any, .any, .any, .any, .any, .any, .any, .any, .any, .any, .any, .any, .any, .any, .any, .any, .any, .any, .any, .any, .any, .any, .any, .any, .any, .any, .any, .any, .any, .any, .any, .any, .any, .any, .any, .any, .any, .any, .any, .any, .any, .any, .any, .any, .any, .any, .any, .any, .any, .any, .any, .any, .any, .any, .any, .any, .any, .any, .any, .any, .any, .any, .any, .any, .any, .any, .any, .any, .any, .any, .any, .any, .any, .any, .any, .any, .any, .any, .any, .any, .any] (h ++ [])) : ACalls Tryd.prog 9 [a0, a1, a2] h R := ACalls.intoN k9 rfl hw
theorem j9 {a0 a1 a2 : AV} {h : AH} {R : AE → AH → Prop} (hw : ∀ n, h.length = n → (∀ e ∈ h, e.lt n = true) → AV.ltL n [a0, a1, a2] = true → AV.bdL [a0, a1, a2] → aw Tryd.prog n c9 (retA [(.tmp 6)] fun x h' => ∃ y z, h' = y ++ z ∧ y.length = n ∧ (∀ e ∈ y, e.lt n = true) ∧ x.lt n = true ∧ R x y) [a0, a1, a2, .any, .any, .any, .any, .any, .any, .any, .any, .any, .any, .any, .any, .any, .any, .any, .any, .any, .any, .any, .any, .any, .any, .any, .any, .any, .any, .any, .any, .any, .any, .any, .any, .any, .any, .any, .any, .any, .any, .any, .any, .any, .any, .any, .any, .any, .any, .any, .any, .any, .any, .any, .any, .any, .any, .any, .any, .any, .any, .any, .any, .any, .any, .any, .any, .any, .any, .any, .any, .any, .any, .any, .any, .any, .any, .any, .any, .any, .any, .any, .any, .any, .any, .any, .any, .any, .any] (h ++ [])) : ACalls Tryd.prog 9 [a0, a1, a2] h R := ACalls.intoG k9 rfl hw
theorem cutC_clean {x : UInt8} : ∀ {a : Bs}, x ∉ a → cutC x a = [a]
  | [], _ => rfl
  | c :: l, h => by
    simp only [List.mem_cons, not_or] at h
    rw [cutC, if_neg (Ne.symm h.1), cutC_clean h.2]
theorem cutC_at {x : UInt8} : ∀ {a b : Bs}, x ∉ a → cutC x (a ++ x :: b) = a :: cutC x b
  | [], b, _ => by simp [cutC]
  | c :: l, b, h => by
    simp only [List.mem_cons, not_or] at h
    rw [List.cons_append, cutC, if_neg (Ne.symm h.1), cutC_at h.2]
/-- from f up to i there is no such sign -/
def clean (x : UInt8) (s : ByteArray) (f i : Nat) : Prop := x ∉ ((aB s).drop f).take (i - f)
theorem clean_self {x : UInt8} {s : ByteArray} {f : Nat} : clean x s f f := by simp [clean]
theorem clean_go {x : UInt8} {s : ByteArray} {f i : Nat} (h : clean x s f i) (hf : f ≤ i) (hi : i < s.size) (hx : byteAt s i ≠ x) : clean x s f (i + 1) := by
  unfold clean at *
  rw [show i + 1 - f = (i - f) + 1 by omega, List.take_add, List.drop_drop, show f + (i - f) = i by omega, aB_at hi]
  simp only [List.take_succ_cons, List.take_zero, List.mem_append, List.mem_singleton, not_or]
  exact ⟨h, fun e => hx e.symm⟩
theorem cutC_seg {x : UInt8} {s : ByteArray} {f i : Nat} (h : clean x s f i) (hf : f ≤ i) (hi : i < s.size) (hx : byteAt s i = x) : cutC x ((aB s).drop f) = aB (s.extract f i) :: cutC x ((aB s).drop (i + 1)) := by
  have e : (aB s).drop f = ((aB s).drop f).take (i - f) ++ x :: (aB s).drop (i + 1) := by
    conv => lhs; rw [← List.take_append_drop (i - f) ((aB s).drop f)]
    rw [List.drop_drop, show f + (i - f) = i by omega, aB_at hi, hx]
  rw [e, cutC_at h, bA_ext, aB_bA]
theorem cutC_last {x : UInt8} {s : ByteArray} {f i : Nat} (h : clean x s f i) (hf : f ≤ i) (hi : i = s.size) : cutC x ((aB s).drop f) = [aB (s.extract f i)] := by
  have e : ((aB s).drop f).take (i - f) = (aB s).drop f := List.take_of_length_le (by rw [List.length_drop, aB_len]; omega)
  unfold clean at h
  rw [e] at h
  rw [cutC_clean h, bA_ext, aB_bA, e]
theorem byte_eq {c : UInt8} {n : Nat} (hn : n < 256) (h : (c.toNat : Int) = n) : c = UInt8.ofNat n := by
  have : c.toNat = n := by omega
  rw [← this]; simp
theorem byte_ne {c : UInt8} {n : Nat} (hn : n < 256) (h : ¬ (c.toNat : Int) = n) : c ≠ UInt8.ofNat n := by
  rintro rfl
  apply h
  simp [UInt8.toNat_ofNat, Nat.mod_eq_of_lt hn]
theorem headN_ext {s : ByteArray} {f i : Nat} (h : f < i) (hi : i ≤ s.size) : headN (aB (s.extract f i)) = ((byteAt s f).toNat : Int) := by
  rw [bA_ext, aB_bA, aB_at (by omega), show i - f = (i - f - 1) + 1 by omega]
  rfl
set_option maxHeartbeats 1000000 in
theorem rsplitOf_a {s : ByteArray} {h : AH} : ACalls Tryd.prog 10 [sv s] h fun x h' => h' = h ∧ x = .ret (.tup [.sl (splitL s).1.length 3 false (rows lnC (splitL s).1), iv (splitL s).2.1, iv (splitL s).2.2]) := by
  refine w10 ?_
  intro N hn hlt hlA hbd
  try simp only [AV.bdL, AV.bd, and_true, true_and] at hbd
  refine w_seq ?_
  refine w_reg ?_
  refine s_val rfl (v_mv lkn) pt2 ?_
  refine s_val rfl (v_mv lki) pt3 ?_
  refine s_val rfl (v_mv lki) pt4 ?_
  refine s_nil ?_
  refine n_seq ?_
  refine w_seq ?_
  refine w_seq ?_
  refine w_reg ?_
  refine s_val rfl (v_mv lk0) pt11 ?_
  refine s_val rfl (v_lenS lk11) pt12 ?_
  refine s_val rfl (v_gtr lk12 lki) pt13 ?_
  refine s_nil ?_
  refine n_seq ?_
  first | refine w_cond lk13 (fun hc1 => ?_) (fun hc1 => ?_) | refine w_condB lk13 (fun hc1 => ?_) (fun hc1 => ?_)
  · skip
    have hS : splitL s = ([], 0, 2) := if_pos (by omega)
    refine w_seq ?_
    refine w_reg ?_
    refine s_val rfl (v_mv lkn) pt2 ?_
    refine s_val rfl (v_mv lki) pt3 ?_
    refine s_val rfl (v_mv lki) pt4 ?_
    refine s_nil ?_
    refine n_seq ?_
    refine w_rets ?_
    refine r_thn ?_
    refine w_ret (rsn (rm1 (rr_t gt2) (rm1 (rr_t gt3) (rm1 (rr_t gt4) rm0)))) ?_
    refine rtw (by first | rfl | (simp only [AV.lt, AV.ltL, Ent.lt, List.all_cons, List.all_nil, Bool.and_true, Bool.and_self, decide_true, str_lt, ln_lt]; done) | (simp [AV.lt, AV.ltL, Ent.lt, str_lt, ln_lt, *]; done) | (simp [AV.lt, AV.ltL, Ent.lt, str_lt, ln_lt, *]; omega)) ?_
    rw [hS]; exact Wk.tup (wkw Wk.nilF (wk1 rfl (wk1 rfl wk0)))
  · skip
    have hz : s.size ≤ 8000 := by omega
    have hS : splitL s = if (linesL 1 (cutC 10 (aB s)) []).2.2 ≠ 0 then linesL 1 (cutC 10 (aB s)) [] else if 200 < (linesL 1 (cutC 10 (aB s)) []).1.length then ([], 0, 2) else linesL 1 (cutC 10 (aB s)) [] := if_neg (by omega)
    obtain ⟨X, hX⟩ : ∃ X, X = linesL 1 (cutC 10 (aB s)) [] := ⟨_, rfl⟩
    rw [← hX] at hS
    refine w_skip ?_
    refine n_seq ?_
    refine w_seq ?_
    refine w_reg ?_
    refine s_val rfl (v_mv lkn) pt5 ?_
    refine s_nil ?_
    refine n_seqw (ALe.own0' (st' := 3) (ty := 29) gt5 (hl0 hn) pt5 ha0) ?_
    refine w_seq ?_
    refine w_reg ?_
    refine s_val rfl (v_mv lki) pt6 ?_
    refine s_val rfl (v_mv lki) pt7 ?_
    refine s_nil ?_
    refine n_seq ?_
    refine w_seq ?_
    refine w_seq ?_
    refine w_reg ?_
    refine s_val rfl (v_mv lki) pt8 ?_
    refine s_nil ?_
    refine n_seq ?_
    refine w_block ?_
    refine w_loop (ι := Nat × Nat × Nat × List Ln × Nat) (fun (x_ : Nat × Nat × Nat × List Ln × Nat) => match x_ with | ⟨f, i, q, acc, v⟩ => [(5, .own (N + 0) v acc.length), (6, iv (f : Int)), (7, iv (q : Int)), (8, iv (i : Int)), (2, .any), (3, .any), (4, .any), (9, .any), (10, .any), (14, .any), (15, .any), (16, .any), (17, .any), (18, .any), (19, .any), (20, .any), (21, .any), (22, .any), (23, .any), (24, .any), (25, .any), (26, .any), (27, .any), (28, .any), (29, .any), (30, .any), (31, .any), (32, .any), (33, .any), (34, .any), (35, .any), (36, .any), (37, .any), (38, .any), (39, .any), (40, .any), (41, .any), (42, .any), (43, .any), (44, .any), (45, .any), (46, .any), (47, .any), (48, .any), (49, .any), (50, .any), (51, .any), (52, .any), (53, .any), (54, .any), (55, .any), (56, .any), (57, .any), (58, .any)]) (fun (x_ : Nat × Nat × Nat × List Ln × Nat) => match x_ with | ⟨f, i, q, acc, v⟩ => [(0, .mk v 29 3 (rows lnC acc))]) (fun (x_ : Nat × Nat × Nat × List Ln × Nat) => match x_ with | ⟨f, i, q, acc, v⟩ => i ≤ s.size + 1 ∧ f ≤ i ∧ q ≤ i + 1 ∧ acc.length ≤ i ∧ (i ≤ s.size → clean 10 s f i ∧ X = linesL (q : Int) (cutC 10 ((aB s).drop f)) acc) ∧ (i = s.size + 1 → X = (acc, 0, 0))) (fun (x_ : Nat × Nat × Nat × List Ln × Nat) => match x_ with | ⟨f, i, q, acc, v⟩ => s.size + 1 - i) (⟨0, 0, 1, [], 0⟩) (by exact ⟨by omega, by omega, by omega, by simp, fun _ => ⟨clean_self, hX⟩, fun h => by omega⟩) (by try simp only [setsT, setsE, List.set_cons_zero, List.set_cons_succ]; exact ALe.same (wk1 rfl (wk1 rfl (wka (wka (wka (wk1 (by first | rfl | exact ivx (by omega) | (simp; done)) (wk1 (by first | rfl | exact ivx (by omega) | (simp; done)) (wk1 (by first | rfl | exact ivx (by omega) | (simp; done)) (wk1 (by first | rfl | exact ivx (by omega) | (simp; done)) (wka (wka (wk1 rfl (wk1 rfl (wk1 rfl (wka (wka (wka (wka (wka (wka (wka (wka (wka (wka (wka (wka (wka (wka (wka (wka (wka (wka (wka (wka (wka (wka (wka (wka (wka (wka (wka (wka (wka (wka (wka (wka (wka (wka (wka (wka (wka (wka (wka (wka (wka (wka (wka (wka (wka (wk1 rfl (wk1 rfl (wk1 rfl (wk1 rfl wk0))))))))))))))))))))))))))))))))))))))))))))))))))))))))))))))) rfl) ?_
    rintro ⟨f, i, q, acc, v⟩ hi1
    try simp only [setsT, setsE, List.set_cons_zero, List.set_cons_succ]
    obtain ⟨hk1, hk2, hk3, hk4, hk5, hk6⟩ := hi1
    refine w_seq ?_
    refine w_seq ?_
    refine w_reg ?_
    refine s_val rfl (v_mv lk8) pt14 ?_
    refine s_val rfl (v_mv lk0) pt15 ?_
    refine s_val rfl (v_lenS lk15) pt16 ?_
    refine s_val rfl (v_leq lk14 lk16) pt17 ?_
    refine s_nil ?_
    refine n_seq ?_
    first | refine w_cond lk17 (fun hc2 => ?_) (fun hc2 => ?_) | refine w_condB lk17 (fun hc2 => ?_) (fun hc2 => ?_)
    · skip
      have hi : i ≤ s.size := by omega
      obtain ⟨hk7, hk8⟩ := hk5 hi
      refine w_skip ?_
      refine n_seq ?_
      refine w_seq ?_
      refine w_block ?_
      refine w_seq ?_
      refine w_seq ?_
      refine w_reg ?_
      refine s_val rfl (v_mv lk8) pt20 ?_
      refine s_val rfl (v_mv lk0) pt21 ?_
      refine s_val rfl (v_lenS lk21) pt22 ?_
      refine s_val rfl (v_lss lk20 lk22) pt23 ?_
      refine s_val rfl (v_mv lk23) pt24 ?_
      first | refine s_splitP gt24 pt24 pt24 (fun hg24 => ?_) (fun hg24 => ?_) | refine s_splitB gt24 pt24 pt24 (fun hg24 => ?_) (fun hg24 => ?_)
      · skip
        refine s_do gt24 ?_
        refine s_val rfl (v_mv lk0) pt25 ?_
        refine s_do gt24 ?_
        refine s_val rfl (v_mv lk8) pt26 ?_
        refine s_do gt24 ?_
        refine s_val rfl (v_ix lk25 lk26 (by omega) (by omega)) pt27 ?_
        refine s_do gt24 ?_
        refine s_val rfl (v_neq lk27 lki) pt28 ?_
        refine s_val rfl (v_pickT lk24 lk28) pt29 ?_
        refine s_nil ?_
        refine n_seq ?_
        first | refine w_cond lk29 (fun hc3 => ?_) (fun hc3 => ?_) | refine w_condB lk29 (fun hc3 => ?_) (fun hc3 => ?_)
        · skip
          have hx : byteAt s i ≠ 10 := fun e => hc3 (show ((byteAt s i).toNat : Int) = 10 by rw [e]; rfl)
          have hcl := clean_go hk7 hk2 (by omega) hx
          refine w_exit ?_
          refine x_thn ?_
          refine x_blk ?_
          refine n_seq ?_
          refine w_reg ?_
          refine s_val rfl (v_mv lk8) pt18 ?_
          refine s_val rfl (v_add lk18 lki (by omega) (by omega)) pt19 ?_
          refine s_val rfl (v_mv lk19) pt8 ?_
          refine s_nil ?_
          refine n_thn ?_
          refine LoopTo.mk (⟨f, i + 1, q, acc, v⟩) (by first | omega | (dsimp only; omega)) (by (try dsimp only); exact ⟨by omega, by omega, by omega, by omega, fun _ => ⟨hcl, hk8⟩, fun h => by omega⟩) (by (try dsimp only); (try simp only [setsT, setsE, List.set_cons_zero, List.set_cons_succ]); exact ALe.same (wk1 rfl (wk1 rfl (wka (wka (wka (wk1 (by first | rfl | exact ivx (by omega) | (simp; done)) (wk1 (by first | rfl | exact ivx (by omega) | (simp; done)) (wk1 (by first | rfl | exact ivx (by omega) | (simp; done)) (wk1 (by first | rfl | exact ivx (by omega) | (simp; done)) (wka (wka (wk1 rfl (wk1 rfl (wk1 rfl (wka (wka (wka (wka (wka (wka (wka (wka (wka (wka (wka (wka (wka (wka (wka (wka (wka (wka (wka (wka (wka (wka (wka (wka (wka (wka (wka (wka (wka (wka (wka (wka (wka (wka (wka (wka (wka (wka (wka (wka (wka (wka (wka (wka (wka (wk1 rfl (wk1 rfl (wk1 rfl (wk1 rfl wk0))))))))))))))))))))))))))))))))))))))))))))))))))))))))))))))) rfl)
        · skip
          have hx : byteAt s i = 10 := byte_eq (n := 10) (by omega) (Decidable.of_not_not hc3)
          have hseg := cutC_seg hk7 hk2 (by omega) hx
          obtain ⟨R, hR⟩ : ∃ R : List Bs, R = cutC 10 ((aB s).drop (i + 1)) := ⟨_, rfl⟩
          rw [hseg, ← hR] at hk8
          have hR2 : (i + 1 ≤ s.size → R = cutC 10 ((aB s).drop (i + 1))) ∧ (i = s.size → R = []) := ⟨fun _ => hR, fun h => by omega⟩
          refine w_skip ?_
          refine n_seq ?_
          rw [linesL] at hk8
          obtain ⟨y, hy⟩ : ∃ y, y = s.extract f i := ⟨_, rfl⟩
          have hys : y.size = i - f := by rw [hy, ByteArray.size_extract]; omega
          refine w_seq ?_
          refine w_reg ?_
          refine s_val rfl (v_mv lk0) pt31 ?_
          refine s_val rfl (v_mv lk6) pt32 ?_
          refine s_val rfl (v_mv lk8) pt33 ?_
          refine s_val rfl (v_sls lk31 (oi lk32) (oi lk33) (by omega) (by omega) (by omega)) pt34 ?_
          rw [show s.extract (f : Int).toNat (i : Int).toNat = y from hy.symm]
          refine s_callp (mp1 lk34 mp0) (rfieldsOf_a (s := y) (by omega)) pt35 ?_
          rw [← hy] at hk8
          refine s_val rfl (v_mv lk35) pt30 ?_
          refine s_val rfl (v_ext lk30 gt0) pt36 ?_
          refine s_val rfl (v_ext lk30 gt1) pt37 ?_
          refine s_val rfl (v_mv lk36) pt9 ?_
          refine s_val rfl (v_mv lk37) pt10 ?_
          refine s_nil ?_
          refine n_seq ?_
          refine w_seq ?_
          refine w_seq ?_
          refine w_reg ?_
          refine s_val rfl (v_mv lk10) pt38 ?_
          refine s_val rfl (v_neq lk38 lki) pt39 ?_
          refine s_nil ?_
          refine n_seq ?_
          first | refine w_cond lk39 (fun hc4 => ?_) (fun hc4 => ?_) | refine w_condB lk39 (fun hc4 => ?_) (fun hc4 => ?_)
          · skip
            have hc4' : (lineL (aB y)).2 ≠ 0 := hc4
            rw [if_pos hc4'] at hk8
            rw [hk8, if_pos hc4'] at hS
            refine w_seq ?_
            refine w_reg ?_
            refine s_val rfl (v_mv lk7) pt40 ?_
            refine s_val rfl (v_mv lk10) pt41 ?_
            refine s_val rfl (v_mv lkn) pt2 ?_
            refine s_val rfl (v_mv lk40) pt3 ?_
            refine s_val rfl (v_mv lk41) pt4 ?_
            refine s_nil ?_
            refine n_seq ?_
            refine w_rets ?_
            refine r_thn ?_
            refine r_blk ?_
            refine r_thn ?_
            refine r_thn ?_
            refine r_blk ?_
            refine r_thn ?_
            refine w_ret (rsn (rm1 (rr_t gt2) (rm1 (rr_t gt3) (rm1 (rr_t gt4) rm0)))) ?_
            refine rtw (by first | rfl | (simp only [AV.lt, AV.ltL, Ent.lt, List.all_cons, List.all_nil, Bool.and_true, Bool.and_self, decide_true, str_lt, ln_lt]; done) | (simp [AV.lt, AV.ltL, Ent.lt, str_lt, ln_lt, *]; done) | (simp [AV.lt, AV.ltL, Ent.lt, str_lt, ln_lt, *]; omega)) ?_
            rw [hS]; exact Wk.tup (wkw Wk.nilF (wk1 rfl (wk1 rfl wk0)))
          · skip
            rw [if_neg hc4] at hk8
            refine w_skip ?_
            refine n_seq ?_
            refine w_seq ?_
            refine w_seq ?_
            refine w_reg ?_
            refine s_val rfl (v_mv lk9) pt42 ?_
            refine s_val rfl (v_lenL lk42) pt43 ?_
            refine s_val rfl (v_gtr lk43 lki) pt44 ?_
            refine s_nil ?_
            refine n_seq ?_
            first | refine w_cond lk44 (fun hc5 => ?_) (fun hc5 => ?_) | refine w_condB lk44 (fun hc5 => ?_) (fun hc5 => ?_)
            · skip
              have hne : (lineL (aB y)).1 ≠ [] := fun e => by rw [e] at hc5; simp at hc5
              have hp := lineL_ne hne
              rw [aB_len] at hp
              rw [if_neg hne] at hk8
              have hh : headN (aB y) = ((byteAt s f).toNat : Int) := by rw [hy]; exact headN_ext (by omega) hi
              rw [hh] at hk8
              refine w_reg ?_
              refine s_val rfl (v_mv lk5) pt45 ?_
              refine s_val rfl (v_mv lk7) pt46 ?_
              refine s_val rfl (v_mv lk0) pt47 ?_
              refine s_val rfl (v_mv lk6) pt48 ?_
              refine s_val rfl (v_ix lk47 lk48 (by omega) (by omega)) pt49 ?_
              refine s_callp (mp1 lk49 mp0) (risBlank_a) pt50 ?_
              refine s_val rfl (v_mv lk9) pt51 ?_
              refine s_val rfl (v_build (LineS_SplitOf_55 (cvl lk46 rfl) rfl (cvl lk50 rfl) rfl (cvl lk51 rfl) rfl)) pt52 ?_
              refine s_eff rfl rfl (e_lit (LineS_SplitOf_56 (cvl lk52 rfl) rfl) (hl1 hn) ha1) pt53 ?_
              refine s_eff rfl rfl (e_app (sc_own lk53 (hga hn rfl) rfl LineS_tk_3 (Nat.le_of_ble_eq_true rfl)) lk45 (hga hn rfl) (ln_len _) (by omega) rfl (hs0 hn)) pt54 ?_
              refine s_val rfl (v_mv lk54) pt5 ?_
              refine s_nil ?_
              refine n_seq ?_
              refine w_seq ?_
              refine w_reg ?_
              refine s_val rfl (v_mv lk8) pt55 ?_
              refine s_val rfl (v_add lk55 lki (by omega) (by omega)) pt56 ?_
              refine s_val rfl (v_mv lk56) pt6 ?_
              refine s_nil ?_
              refine n_seq ?_
              refine w_reg ?_
              refine s_val rfl (v_mv lk7) pt57 ?_
              refine s_val rfl (v_add lk57 lki (by omega) (by omega)) pt58 ?_
              refine s_val rfl (v_mv lk58) pt7 ?_
              refine s_nil ?_
              refine n_blk ?_
              refine n_seq ?_
              refine w_reg ?_
              refine s_val rfl (v_mv lk8) pt18 ?_
              refine s_val rfl (v_add lk18 lki (by omega) (by omega)) pt19 ?_
              refine s_val rfl (v_mv lk19) pt8 ?_
              refine s_nil ?_
              refine n_thn ?_
              refine LoopTo.mk (⟨i + 1, i + 1, q + 1, acc ++ [((q : Int), blkN ((byteAt s f).toNat : Int), (lineL (aB y)).1)], v + 1⟩) (by first | omega | (dsimp only; omega)) (by (try dsimp only); exact ⟨by omega, by omega, by omega, by simp; omega, fun h => ⟨clean_self, by rw [← hR2.1 h]; exact hk8⟩, fun h => by rw [hR2.2 (by omega), linesL] at hk8; exact hk8⟩) (by (try dsimp only); (try simp only [setsT, setsE, List.set_cons_zero, List.set_cons_succ]); exact ALe.back (wk1 rfl (wk1 rfl (wka (wka (wka (wk1 (by first | rfl | exact ivx (by omega) | (simp; done)) (wk1 (by first | rfl | exact ivx (by omega) | (simp; done)) (wk1 (by first | rfl | exact ivx (by omega) | (simp; done)) (wk1 (by first | rfl | exact ivx (by omega) | (simp; done)) (wka (wka (wk1 rfl (wk1 rfl (wk1 rfl (wka (wka (wka (wka (wka (wka (wka (wka (wka (wka (wka (wka (wka (wka (wka (wka (wka (wka (wka (wka (wka (wka (wka (wka (wka (wka (wka (wka (wka (wka (wka (wka (wka (wka (wka (wka (wka (wka (wka (wka (wka (wka (wka (wka (wka (wk1 rfl (wk1 rfl (wk1 rfl (wk1 rfl wk0))))))))))))))))))))))))))))))))))))))))))))))))))))))))))))))) (by simp only [rows_app, rows_one, lnC]; rfl) (k := N + 1) (by simp only [List.length_cons, List.length_nil, hn]) (by omega) (by first | rfl | (simp only [AV.lt, AV.ltL, Ent.lt, List.all_cons, List.all_nil, Bool.and_true, Bool.and_self, decide_true, str_lt, ln_lt]; done) | (simp [AV.lt, AV.ltL, Ent.lt, str_lt, ln_lt, *]; done) | (simp [AV.lt, AV.ltL, Ent.lt, str_lt, ln_lt, *]; omega)) (ltw (by omega) hlt) (by first | rfl | (simp only [AV.lt, AV.ltL, Ent.lt, List.all_cons, List.all_nil, Bool.and_true, Bool.and_self, decide_true, str_lt, ln_lt]; done) | (simp [AV.lt, AV.ltL, Ent.lt, str_lt, ln_lt, *]; done) | (simp [AV.lt, AV.ltL, Ent.lt, str_lt, ln_lt, *]; omega)))
            · skip
              have hne : (lineL (aB y)).1 = [] := List.eq_nil_of_length_eq_zero (by omega)
              rw [if_pos hne] at hk8
              refine w_skip ?_
              refine n_seq ?_
              refine w_seq ?_
              refine w_reg ?_
              refine s_val rfl (v_mv lk8) pt55 ?_
              refine s_val rfl (v_add lk55 lki (by omega) (by omega)) pt56 ?_
              refine s_val rfl (v_mv lk56) pt6 ?_
              refine s_nil ?_
              refine n_seq ?_
              refine w_reg ?_
              refine s_val rfl (v_mv lk7) pt57 ?_
              refine s_val rfl (v_add lk57 lki (by omega) (by omega)) pt58 ?_
              refine s_val rfl (v_mv lk58) pt7 ?_
              refine s_nil ?_
              refine n_blk ?_
              refine n_seq ?_
              refine w_reg ?_
              refine s_val rfl (v_mv lk8) pt18 ?_
              refine s_val rfl (v_add lk18 lki (by omega) (by omega)) pt19 ?_
              refine s_val rfl (v_mv lk19) pt8 ?_
              refine s_nil ?_
              refine n_thn ?_
              refine LoopTo.mk (⟨i + 1, i + 1, q + 1, acc, v⟩) (by first | omega | (dsimp only; omega)) (by (try dsimp only); exact ⟨by omega, by omega, by omega, by omega, fun h => ⟨clean_self, by rw [← hR2.1 h]; exact hk8⟩, fun h => by rw [hR2.2 (by omega), linesL] at hk8; exact hk8⟩) (by (try dsimp only); (try simp only [setsT, setsE, List.set_cons_zero, List.set_cons_succ]); exact ALe.same (wk1 rfl (wk1 rfl (wka (wka (wka (wk1 (by first | rfl | exact ivx (by omega) | (simp; done)) (wk1 (by first | rfl | exact ivx (by omega) | (simp; done)) (wk1 (by first | rfl | exact ivx (by omega) | (simp; done)) (wk1 (by first | rfl | exact ivx (by omega) | (simp; done)) (wka (wka (wk1 rfl (wk1 rfl (wk1 rfl (wka (wka (wka (wka (wka (wka (wka (wka (wka (wka (wka (wka (wka (wka (wka (wka (wka (wka (wka (wka (wka (wka (wka (wka (wka (wka (wka (wka (wka (wka (wka (wka (wka (wka (wka (wka (wka (wka (wka (wka (wka (wka (wka (wka (wka (wk1 rfl (wk1 rfl (wk1 rfl (wk1 rfl wk0))))))))))))))))))))))))))))))))))))))))))))))))))))))))))))))) rfl)
      · skip
        have hseg : cutC 10 ((aB s).drop f) = [aB (s.extract f i)] := cutC_last hk7 hk2 (by omega)
        obtain ⟨R, hR⟩ : ∃ R : List Bs, R = [] := ⟨_, rfl⟩
        rw [hseg, ← hR] at hk8
        have hR2 : (i + 1 ≤ s.size → R = cutC 10 ((aB s).drop (i + 1))) ∧ (i = s.size → R = []) := ⟨fun h => by omega, fun _ => hR⟩
        refine s_no gt24 pt25 ?_
        refine s_no gt24 pt26 ?_
        refine s_no gt24 pt27 ?_
        refine s_no gt24 pt28 ?_
        refine s_val rfl (v_pickF lk24 lkb) pt29 ?_
        refine s_nil ?_
        refine n_seq ?_
        refine w_condF lk29 ?_
        refine w_skip ?_
        refine n_seq ?_
        rw [linesL] at hk8
        obtain ⟨y, hy⟩ : ∃ y, y = s.extract f i := ⟨_, rfl⟩
        have hys : y.size = i - f := by rw [hy, ByteArray.size_extract]; omega
        refine w_seq ?_
        refine w_reg ?_
        refine s_val rfl (v_mv lk0) pt31 ?_
        refine s_val rfl (v_mv lk6) pt32 ?_
        refine s_val rfl (v_mv lk8) pt33 ?_
        refine s_val rfl (v_sls lk31 (oi lk32) (oi lk33) (by omega) (by omega) (by omega)) pt34 ?_
        rw [show s.extract (f : Int).toNat (i : Int).toNat = y from hy.symm]
        refine s_callp (mp1 lk34 mp0) (rfieldsOf_a (s := y) (by omega)) pt35 ?_
        rw [← hy] at hk8
        refine s_val rfl (v_mv lk35) pt30 ?_
        refine s_val rfl (v_ext lk30 gt0) pt36 ?_
        refine s_val rfl (v_ext lk30 gt1) pt37 ?_
        refine s_val rfl (v_mv lk36) pt9 ?_
        refine s_val rfl (v_mv lk37) pt10 ?_
        refine s_nil ?_
        refine n_seq ?_
        refine w_seq ?_
        refine w_seq ?_
        refine w_reg ?_
        refine s_val rfl (v_mv lk10) pt38 ?_
        refine s_val rfl (v_neq lk38 lki) pt39 ?_
        refine s_nil ?_
        refine n_seq ?_
        first | refine w_cond lk39 (fun hc4 => ?_) (fun hc4 => ?_) | refine w_condB lk39 (fun hc4 => ?_) (fun hc4 => ?_)
        · skip
          have hc4' : (lineL (aB y)).2 ≠ 0 := hc4
          rw [if_pos hc4'] at hk8
          rw [hk8, if_pos hc4'] at hS
          refine w_seq ?_
          refine w_reg ?_
          refine s_val rfl (v_mv lk7) pt40 ?_
          refine s_val rfl (v_mv lk10) pt41 ?_
          refine s_val rfl (v_mv lkn) pt2 ?_
          refine s_val rfl (v_mv lk40) pt3 ?_
          refine s_val rfl (v_mv lk41) pt4 ?_
          refine s_nil ?_
          refine n_seq ?_
          refine w_rets ?_
          refine r_thn ?_
          refine r_blk ?_
          refine r_thn ?_
          refine r_thn ?_
          refine r_blk ?_
          refine r_thn ?_
          refine w_ret (rsn (rm1 (rr_t gt2) (rm1 (rr_t gt3) (rm1 (rr_t gt4) rm0)))) ?_
          refine rtw (by first | rfl | (simp only [AV.lt, AV.ltL, Ent.lt, List.all_cons, List.all_nil, Bool.and_true, Bool.and_self, decide_true, str_lt, ln_lt]; done) | (simp [AV.lt, AV.ltL, Ent.lt, str_lt, ln_lt, *]; done) | (simp [AV.lt, AV.ltL, Ent.lt, str_lt, ln_lt, *]; omega)) ?_
          rw [hS]; exact Wk.tup (wkw Wk.nilF (wk1 rfl (wk1 rfl wk0)))
        · skip
          rw [if_neg hc4] at hk8
          refine w_skip ?_
          refine n_seq ?_
          refine w_seq ?_
          refine w_seq ?_
          refine w_reg ?_
          refine s_val rfl (v_mv lk9) pt42 ?_
          refine s_val rfl (v_lenL lk42) pt43 ?_
          refine s_val rfl (v_gtr lk43 lki) pt44 ?_
          refine s_nil ?_
          refine n_seq ?_
          first | refine w_cond lk44 (fun hc5 => ?_) (fun hc5 => ?_) | refine w_condB lk44 (fun hc5 => ?_) (fun hc5 => ?_)
          · skip
            have hne : (lineL (aB y)).1 ≠ [] := fun e => by rw [e] at hc5; simp at hc5
            have hp := lineL_ne hne
            rw [aB_len] at hp
            rw [if_neg hne] at hk8
            have hh : headN (aB y) = ((byteAt s f).toNat : Int) := by rw [hy]; exact headN_ext (by omega) hi
            rw [hh] at hk8
            refine w_reg ?_
            refine s_val rfl (v_mv lk5) pt45 ?_
            refine s_val rfl (v_mv lk7) pt46 ?_
            refine s_val rfl (v_mv lk0) pt47 ?_
            refine s_val rfl (v_mv lk6) pt48 ?_
            refine s_val rfl (v_ix lk47 lk48 (by omega) (by omega)) pt49 ?_
            refine s_callp (mp1 lk49 mp0) (risBlank_a) pt50 ?_
            refine s_val rfl (v_mv lk9) pt51 ?_
            refine s_val rfl (v_build (LineS_SplitOf_55 (cvl lk46 rfl) rfl (cvl lk50 rfl) rfl (cvl lk51 rfl) rfl)) pt52 ?_
            refine s_eff rfl rfl (e_lit (LineS_SplitOf_56 (cvl lk52 rfl) rfl) (hl1 hn) ha1) pt53 ?_
            refine s_eff rfl rfl (e_app (sc_own lk53 (hga hn rfl) rfl LineS_tk_3 (Nat.le_of_ble_eq_true rfl)) lk45 (hga hn rfl) (ln_len _) (by omega) rfl (hs0 hn)) pt54 ?_
            refine s_val rfl (v_mv lk54) pt5 ?_
            refine s_nil ?_
            refine n_seq ?_
            refine w_seq ?_
            refine w_reg ?_
            refine s_val rfl (v_mv lk8) pt55 ?_
            refine s_val rfl (v_add lk55 lki (by omega) (by omega)) pt56 ?_
            refine s_val rfl (v_mv lk56) pt6 ?_
            refine s_nil ?_
            refine n_seq ?_
            refine w_reg ?_
            refine s_val rfl (v_mv lk7) pt57 ?_
            refine s_val rfl (v_add lk57 lki (by omega) (by omega)) pt58 ?_
            refine s_val rfl (v_mv lk58) pt7 ?_
            refine s_nil ?_
            refine n_blk ?_
            refine n_seq ?_
            refine w_reg ?_
            refine s_val rfl (v_mv lk8) pt18 ?_
            refine s_val rfl (v_add lk18 lki (by omega) (by omega)) pt19 ?_
            refine s_val rfl (v_mv lk19) pt8 ?_
            refine s_nil ?_
            refine n_thn ?_
            refine LoopTo.mk (⟨i + 1, i + 1, q + 1, acc ++ [((q : Int), blkN ((byteAt s f).toNat : Int), (lineL (aB y)).1)], v + 1⟩) (by first | omega | (dsimp only; omega)) (by (try dsimp only); exact ⟨by omega, by omega, by omega, by simp; omega, fun h => ⟨clean_self, by rw [← hR2.1 h]; exact hk8⟩, fun h => by rw [hR2.2 (by omega), linesL] at hk8; exact hk8⟩) (by (try dsimp only); (try simp only [setsT, setsE, List.set_cons_zero, List.set_cons_succ]); exact ALe.back (wk1 rfl (wk1 rfl (wka (wka (wka (wk1 (by first | rfl | exact ivx (by omega) | (simp; done)) (wk1 (by first | rfl | exact ivx (by omega) | (simp; done)) (wk1 (by first | rfl | exact ivx (by omega) | (simp; done)) (wk1 (by first | rfl | exact ivx (by omega) | (simp; done)) (wka (wka (wk1 rfl (wk1 rfl (wk1 rfl (wka (wka (wka (wka (wka (wka (wka (wka (wka (wka (wka (wka (wka (wka (wka (wka (wka (wka (wka (wka (wka (wka (wka (wka (wka (wka (wka (wka (wka (wka (wka (wka (wka (wka (wka (wka (wka (wka (wka (wka (wka (wka (wka (wka (wka (wk1 rfl (wk1 rfl (wk1 rfl (wk1 rfl wk0))))))))))))))))))))))))))))))))))))))))))))))))))))))))))))))) (by simp only [rows_app, rows_one, lnC]; rfl) (k := N + 1) (by simp only [List.length_cons, List.length_nil, hn]) (by omega) (by first | rfl | (simp only [AV.lt, AV.ltL, Ent.lt, List.all_cons, List.all_nil, Bool.and_true, Bool.and_self, decide_true, str_lt, ln_lt]; done) | (simp [AV.lt, AV.ltL, Ent.lt, str_lt, ln_lt, *]; done) | (simp [AV.lt, AV.ltL, Ent.lt, str_lt, ln_lt, *]; omega)) (ltw (by omega) hlt) (by first | rfl | (simp only [AV.lt, AV.ltL, Ent.lt, List.all_cons, List.all_nil, Bool.and_true, Bool.and_self, decide_true, str_lt, ln_lt]; done) | (simp [AV.lt, AV.ltL, Ent.lt, str_lt, ln_lt, *]; done) | (simp [AV.lt, AV.ltL, Ent.lt, str_lt, ln_lt, *]; omega)))
          · skip
            have hne : (lineL (aB y)).1 = [] := List.eq_nil_of_length_eq_zero (by omega)
            rw [if_pos hne] at hk8
            refine w_skip ?_
            refine n_seq ?_
            refine w_seq ?_
            refine w_reg ?_
            refine s_val rfl (v_mv lk8) pt55 ?_
            refine s_val rfl (v_add lk55 lki (by omega) (by omega)) pt56 ?_
            refine s_val rfl (v_mv lk56) pt6 ?_
            refine s_nil ?_
            refine n_seq ?_
            refine w_reg ?_
            refine s_val rfl (v_mv lk7) pt57 ?_
            refine s_val rfl (v_add lk57 lki (by omega) (by omega)) pt58 ?_
            refine s_val rfl (v_mv lk58) pt7 ?_
            refine s_nil ?_
            refine n_blk ?_
            refine n_seq ?_
            refine w_reg ?_
            refine s_val rfl (v_mv lk8) pt18 ?_
            refine s_val rfl (v_add lk18 lki (by omega) (by omega)) pt19 ?_
            refine s_val rfl (v_mv lk19) pt8 ?_
            refine s_nil ?_
            refine n_thn ?_
            refine LoopTo.mk (⟨i + 1, i + 1, q + 1, acc, v⟩) (by first | omega | (dsimp only; omega)) (by (try dsimp only); exact ⟨by omega, by omega, by omega, by omega, fun h => ⟨clean_self, by rw [← hR2.1 h]; exact hk8⟩, fun h => by rw [hR2.2 (by omega), linesL] at hk8; exact hk8⟩) (by (try dsimp only); (try simp only [setsT, setsE, List.set_cons_zero, List.set_cons_succ]); exact ALe.same (wk1 rfl (wk1 rfl (wka (wka (wka (wk1 (by first | rfl | exact ivx (by omega) | (simp; done)) (wk1 (by first | rfl | exact ivx (by omega) | (simp; done)) (wk1 (by first | rfl | exact ivx (by omega) | (simp; done)) (wk1 (by first | rfl | exact ivx (by omega) | (simp; done)) (wka (wka (wk1 rfl (wk1 rfl (wk1 rfl (wka (wka (wka (wka (wka (wka (wka (wka (wka (wka (wka (wka (wka (wka (wka (wka (wka (wka (wka (wka (wka (wka (wka (wka (wka (wka (wka (wka (wka (wka (wka (wka (wka (wka (wka (wka (wka (wka (wka (wka (wka (wka (wka (wka (wka (wk1 rfl (wk1 rfl (wk1 rfl (wk1 rfl wk0))))))))))))))))))))))))))))))))))))))))))))))))))))))))))))))) rfl)
    · skip
      have hXe := hk6 (by omega)
      rw [hXe, if_neg (by simp)] at hS
      refine w_exit ?_
      refine x_thn ?_
      refine x_thn ?_
      refine x_blk ?_
      refine n_seq ?_
      refine w_seq ?_
      refine w_seq ?_
      refine w_reg ?_
      refine s_val rfl (v_mv lk5) pt59 ?_
      refine s_val rfl (v_lenO lk59) pt60 ?_
      refine s_val rfl (v_gtr lk60 lki) pt61 ?_
      refine s_nil ?_
      refine n_seq ?_
      first | refine w_cond lk61 (fun hc6 => ?_) (fun hc6 => ?_) | refine w_condB lk61 (fun hc6 => ?_) (fun hc6 => ?_)
      · skip
        rw [if_pos (show 200 < acc.length by omega)] at hS
        refine w_seq ?_
        refine w_reg ?_
        refine s_val rfl (v_mv lkn) pt2 ?_
        refine s_val rfl (v_mv lki) pt3 ?_
        refine s_val rfl (v_mv lki) pt4 ?_
        refine s_nil ?_
        refine n_seq ?_
        refine w_rets ?_
        refine r_thn ?_
        refine w_ret (rsn (rm1 (rr_t gt2) (rm1 (rr_t gt3) (rm1 (rr_t gt4) rm0)))) ?_
        refine rtw (by first | rfl | (simp only [AV.lt, AV.ltL, Ent.lt, List.all_cons, List.all_nil, Bool.and_true, Bool.and_self, decide_true, str_lt, ln_lt]; done) | (simp [AV.lt, AV.ltL, Ent.lt, str_lt, ln_lt, *]; done) | (simp [AV.lt, AV.ltL, Ent.lt, str_lt, ln_lt, *]; omega)) ?_
        rw [hS]; exact Wk.tup (wkw Wk.nilF (wk1 rfl (wk1 rfl wk0)))
      · skip
        rw [if_neg (show ¬ 200 < acc.length by omega)] at hS
        refine w_skip ?_
        refine n_seq ?_
        refine w_seq ?_
        refine w_reg ?_
        refine s_val rfl (v_mv lk5) pt62 ?_
        refine s_val rfl (v_mv lk62) pt2 ?_
        refine s_val rfl (v_mv lki) pt3 ?_
        refine s_val rfl (v_mv lki) pt4 ?_
        refine s_nil ?_
        skip
        refine n_seqw (ALe.iceR (hga hn rfl) gt2 (List.take_of_length_le (by rw [ln_len]; exact Nat.le_refl _)) (by rw [ln_len]; exact Nat.le_refl _) pt2 (hs0 hn)) ?_
        refine w_rets ?_
        refine w_ret (rsn (rm1 (rr_t gt2) (rm1 (rr_t gt3) (rm1 (rr_t gt4) rm0)))) ?_
        refine rtw (by first | rfl | (simp only [AV.lt, AV.ltL, Ent.lt, List.all_cons, List.all_nil, Bool.and_true, Bool.and_self, decide_true, str_lt, ln_lt]; done) | (simp [AV.lt, AV.ltL, Ent.lt, str_lt, ln_lt, *]; done) | (simp [AV.lt, AV.ltL, Ent.lt, str_lt, ln_lt, *]; omega)) ?_
        rw [hS]; exact Wk.refl _
/-- a line, its number if that is asked -/
def lnP (nums : Bool) (x : Ln) : Int × Bool × List ByteArray := (if nums = true then x.1 else 0, x.2)
def sameLn (nums : Bool) (a b : List Ln) : Bool := decide (a.map (lnP nums) = b.map (lnP nums))
theorem sameLn_true {a b : List Ln} : sameLn true a b = true ↔ a = b := by
  have : lnP true = id := by funext x; rfl
  simp [sameLn, this]
theorem sameLn_false {a b : List Ln} : sameLn false a b = true ↔ a.map (·.2) = b.map (·.2) := by
  have hf : lnP false = fun x => (0, x.2) := by funext x; simp [lnP]
  unfold sameLn
  rw [decide_eq_true_iff, hf]
  constructor
  · intro h
    have := congrArg (List.map Prod.snd) h
    simpa [Function.comp_def] using this
  · intro h
    have := congrArg (List.map (fun x => ((0 : Int), x))) h
    simpa [Function.comp_def] using this
theorem sameLn_at {nums : Bool} {a b : List Ln} {k : Nat} (h : sameLn nums a b = true) (ha : k < a.length) (hb : k < b.length) : lnP nums a[k] = lnP nums b[k] := by
  unfold sameLn at h
  rw [decide_eq_true_iff] at h
  have h1 : (a.map (lnP nums))[k]? = (b.map (lnP nums))[k]? := by rw [h]
  simpa [ha, hb] using h1
theorem sameLn_no {nums : Bool} {a b : List Ln} {k : Nat} (ha : k < a.length) (hb : k < b.length) (h : lnP nums a[k] ≠ lnP nums b[k]) : sameLn nums a b = false := by
  cases hs : sameLn nums a b
  · rfl
  · exact absurd (sameLn_at hs ha hb) h
theorem list_eq_at {α : Type} {x y : List α} (hl : x.length = y.length) (h : ∀ j (h1 : j < x.length) (h2 : j < y.length), x[j] = y[j]) : x = y := List.ext_getElem hl h
theorem bdL_app : ∀ {a b : List AV}, AV.bdL (a ++ b) → AV.bdL a ∧ AV.bdL b
  | [], b, h => ⟨by simp [AV.bdL], h⟩
  | x :: a, b, h => by
    simp only [List.cons_append, AV.bdL] at h ⊢
    exact ⟨⟨h.1, (bdL_app h.2).1⟩, (bdL_app h.2).2⟩
theorem bdL_rows {α : Type} {f : α → List AV} : ∀ {l : List α}, AV.bdL (rows f l) → ∀ x ∈ l, AV.bdL (f x)
  | [], _, x, hx => by simp at hx
  | y :: l, h, x, hx => by
    obtain ⟨h1, h2⟩ := bdL_app (a := f y) (b := rows f l) h
    rcases List.mem_cons.1 hx with rfl | hx
    · exact h1
    · exact bdL_rows h2 x hx
theorem ln_bd {a : List Ln} (h : AV.bdL (rows lnC a)) : ∀ x ∈ a, x.2.2.length ≤ 9223372036854775807 := fun x hx => by
  have := bdL_rows h x hx
  simp only [AV.bdL, AV.bd] at this
  exact this.2.2.1.1
set_option maxHeartbeats 1000000 in
theorem rsameLines_a {a b : List Ln} {nums f1 f2 : Bool} {h : AH} : ACalls Tryd.prog 9 [.sl a.length 3 f1 (rows lnC a), .sl b.length 3 f2 (rows lnC b), bv nums] h fun x h' => h' = h ∧ x = .ret (bv (sameLn nums a b)) := by
  refine i9 ?_
  intro N hn hlt hlA hbd
  try simp only [AV.bdL, AV.bd, and_true, true_and] at hbd
  refine w_seq ?_
  refine w_reg ?_
  refine s_val rfl (v_mv lkb) pt6 ?_
  refine s_nil ?_
  refine n_seq ?_
  refine w_seq ?_
  refine w_seq ?_
  refine w_reg ?_
  refine s_val rfl (v_mv lk0) pt9 ?_
  refine s_val rfl (v_lenL lk9) pt10 ?_
  refine s_val rfl (v_mv lk1) pt11 ?_
  refine s_val rfl (v_lenL lk11) pt12 ?_
  refine s_val rfl (v_neq lk10 lk12) pt13 ?_
  refine s_nil ?_
  refine n_seq ?_
  first | refine w_cond lk13 (fun hc1 => ?_) (fun hc1 => ?_) | refine w_condB lk13 (fun hc1 => ?_) (fun hc1 => ?_)
  · skip
    have hS : sameLn nums a b = false := decide_eq_false (fun e => hc1 (by have := congrArg List.length e; simp at this; rw [this]))
    refine w_seq ?_
    refine w_reg ?_
    refine s_val rfl (v_mv lkb) pt6 ?_
    refine s_nil ?_
    refine n_seq ?_
    refine w_rets ?_
    refine r_thn ?_
    refine w_ret (rs1 (rr_t gt6)) ?_
    refine rt (by first | rfl | (simp only [AV.lt, AV.ltL, Ent.lt, List.all_cons, List.all_nil, Bool.and_true, Bool.and_self, decide_true, str_lt, ln_lt]; done) | (simp [AV.lt, AV.ltL, Ent.lt, str_lt, ln_lt, *]; done) | (simp [AV.lt, AV.ltL, Ent.lt, str_lt, ln_lt, *]; omega)) ?_
    rw [hS]
  · skip
    have hl : a.length = b.length := by omega
    refine w_skip ?_
    refine n_seq ?_
    refine w_seq ?_
    refine w_seq ?_
    refine w_reg ?_
    refine s_val rfl (v_mv lki) pt7 ?_
    refine s_nil ?_
    refine n_seq ?_
    refine w_block ?_
    refine w_loop (ι := Nat) (fun (k : Nat) => [(7, iv (k : Int)), (6, .any), (8, .any), (14, .any), (15, .any), (16, .any), (17, .any), (18, .any), (19, .any), (20, .any), (21, .any), (22, .any), (23, .any), (24, .any), (25, .any), (26, .any), (27, .any), (28, .any), (29, .any), (30, .any), (31, .any), (32, .any), (33, .any), (34, .any), (35, .any), (36, .any), (37, .any), (38, .any), (39, .any), (40, .any), (41, .any), (42, .any), (43, .any), (44, .any), (45, .any), (46, .any), (47, .any), (48, .any), (49, .any), (50, .any), (51, .any), (52, .any), (53, .any), (54, .any), (55, .any), (56, .any), (57, .any), (58, .any), (59, .any), (60, .any), (61, .any), (62, .any), (63, .any), (64, .any), (65, .any), (66, .any), (67, .any), (68, .any), (69, .any), (70, .any), (71, .any), (72, .any), (73, .any), (74, .any), (75, .any), (76, .any), (77, .any), (78, .any), (79, .any), (80, .any), (81, .any), (82, .any), (83, .any), (84, .any), (85, .any), (86, .any), (87, .any), (88, .any)]) (fun (k : Nat) => []) (fun (k : Nat) => k ≤ a.length ∧ (a.take k).map (lnP nums) = (b.take k).map (lnP nums)) (fun (k : Nat) => a.length - k) (0) (by exact ⟨by omega, by simp⟩) (by try simp only [setsT, setsE, List.set_cons_zero, List.set_cons_succ]; exact ALe.same (wk1 rfl (wk1 rfl (wk1 rfl (wk1 rfl (wk1 rfl (wk1 rfl (wka (wk1 (by first | rfl | exact ivx (by omega) | (simp; done)) (wka (wk1 rfl (wk1 rfl (wk1 rfl (wk1 rfl (wk1 rfl (wka (wka (wka (wka (wka (wka (wka (wka (wka (wka (wka (wka (wka (wka (wka (wka (wka (wka (wka (wka (wka (wka (wka (wka (wka (wka (wka (wka (wka (wka (wka (wka (wka (wka (wka (wka (wka (wka (wka (wka (wka (wka (wka (wka (wka (wka (wka (wka (wka (wka (wka (wka (wka (wka (wka (wka (wka (wka (wka (wka (wka (wka (wka (wka (wka (wka (wka (wka (wka (wka (wka (wka (wka (wka (wka wk0))))))))))))))))))))))))))))))))))))))))))))))))))))))))))))))))))))))))))))))))))))))))) rfl) ?_
    rintro k hi1
    try simp only [setsT, setsE, List.set_cons_zero, List.set_cons_succ]
    obtain ⟨hk1, hk2⟩ := hi1
    refine w_seq ?_
    refine w_seq ?_
    refine w_reg ?_
    refine s_val rfl (v_mv lk7) pt14 ?_
    refine s_val rfl (v_mv lk0) pt15 ?_
    refine s_val rfl (v_lenL lk15) pt16 ?_
    refine s_val rfl (v_lss lk14 lk16) pt17 ?_
    refine s_nil ?_
    refine n_seq ?_
    first | refine w_cond lk17 (fun hc2 => ?_) (fun hc2 => ?_) | refine w_condB lk17 (fun hc2 => ?_) (fun hc2 => ?_)
    · skip
      have hka : k < a.length := by omega
      have hkb : k < b.length := by omega
      have hbk := ln_bd hbd.1.2 _ (List.getElem_mem hka)
      refine w_skip ?_
      refine n_seq ?_
      refine w_seq ?_
      refine w_block ?_
      refine w_seq ?_
      refine w_seq ?_
      refine w_drwE ?_
      refine d_val rfl (v_mv lk2) pt20 ?_
      refine d_val rfl (v_mv lk20) pt21 ?_
      refine d_splitB gt21 pt21 pt21 (fun hg21 => ?_) (fun hg21 => ?_)
      · skip
        refine d_do gt21 ?_
        refine d_val rfl (v_mv lk0) pt22 ?_
        refine d_do gt21 ?_
        refine d_val rfl (v_mv lk7) pt23 ?_
        refine d_do gt21 ?_
        refine d_val rfl (v_iaR lk22 lk23 ln_len1 (Nat.le_of_ble_eq_true rfl) (by first | rfl | omega) (by omega) (by first | rfl | omega) rfl) pt24 ?_
        refine d_do gt21 ?_
        refine d_val rfl (v_far lk24 dp0) pt25 ?_
        refine d_do gt21 ?_
        refine d_val rfl (v_loadr lk25 gt0) pt26 ?_
        refine d_do gt21 ?_
        refine d_val rfl (v_mv lk1) pt27 ?_
        refine d_do gt21 ?_
        refine d_val rfl (v_mv lk7) pt28 ?_
        refine d_do gt21 ?_
        refine d_val rfl (v_iaR lk27 lk28 ln_len1 (Nat.le_of_ble_eq_true rfl) (by first | rfl | omega) (by omega) (by first | rfl | omega) rfl) pt29 ?_
        refine d_do gt21 ?_
        refine d_val rfl (v_far lk29 dp0) pt30 ?_
        refine d_do gt21 ?_
        refine d_val rfl (v_loadr lk30 gt0) pt31 ?_
        refine d_do gt21 ?_
        refine d_val rfl ((by first | exact v_neq lk26 lk31 | exact v_neqS lk26 lk31)) pt32 ?_
        refine d_val rfl (v_pickT lk21 lk32) pt33 ?_
        refine d_val rfl (v_mv lk33) pt34 ?_
        first | refine d_splitP gt34 pt34 pt34 (fun hg34 => ?_) (fun hg34 => ?_) | refine d_splitB gt34 pt34 pt34 (fun hg34 => ?_) (fun hg34 => ?_)
        · skip
          have hS := sameLn_no (nums := nums) hka hkb (by unfold lnP; intro e; simp_all)
          refine d_no gt34 pt35 ?_
          refine d_no gt34 pt36 ?_
          refine d_no gt34 pt37 ?_
          refine d_no gt34 pt38 ?_
          refine d_no gt34 pt39 ?_
          refine d_no gt34 pt40 ?_
          refine d_no gt34 pt41 ?_
          refine d_no gt34 pt42 ?_
          refine d_no gt34 pt43 ?_
          refine d_no gt34 pt44 ?_
          refine d_no gt34 pt45 ?_
          refine d_val rfl (v_pickT lk34 lkb) pt46 ?_
          refine d_val rfl (v_mv lk46) pt47 ?_
          refine d_no gt47 pt48 ?_
          refine d_no gt47 pt49 ?_
          refine d_no gt47 pt50 ?_
          refine d_no gt47 pt51 ?_
          refine d_no gt47 pt52 ?_
          refine d_no gt47 pt53 ?_
          refine d_no gt47 pt54 ?_
          refine d_no gt47 pt55 ?_
          refine d_no gt47 pt56 ?_
          refine d_no gt47 pt57 ?_
          refine d_no gt47 pt58 ?_
          refine d_no gt47 pt59 ?_
          refine d_no gt47 pt60 ?_
          refine d_val rfl (v_pickT lk47 lkb) pt61 ?_
          refine d_nil ?_
          refine e_nil ?_
          refine s_nil ?_
          refine n_seq ?_
          refine w_condT lk61 ?_
          refine w_seq ?_
          refine w_reg ?_
          refine s_val rfl (v_mv lkb) pt6 ?_
          refine s_nil ?_
          refine n_seq ?_
          refine w_rets ?_
          refine r_thn ?_
          refine r_blk ?_
          refine r_thn ?_
          refine r_thn ?_
          refine r_blk ?_
          refine r_thn ?_
          refine w_ret (rs1 (rr_t gt6)) ?_
          refine rt (by first | rfl | (simp only [AV.lt, AV.ltL, Ent.lt, List.all_cons, List.all_nil, Bool.and_true, Bool.and_self, decide_true, str_lt, ln_lt]; done) | (simp [AV.lt, AV.ltL, Ent.lt, str_lt, ln_lt, *]; done) | (simp [AV.lt, AV.ltL, Ent.lt, str_lt, ln_lt, *]; omega)) ?_
          rw [hS]
        · skip
          refine d_do gt34 ?_
          refine d_val rfl (v_mv lk0) pt35 ?_
          refine d_do gt34 ?_
          refine d_val rfl (v_mv lk7) pt36 ?_
          refine d_do gt34 ?_
          refine d_val rfl (v_iaR lk35 lk36 ln_len1 (Nat.le_of_ble_eq_true rfl) (by first | rfl | omega) (by omega) (by first | rfl | omega) rfl) pt37 ?_
          refine d_do gt34 ?_
          refine d_val rfl (v_far lk37 dp1) pt38 ?_
          refine d_do gt34 ?_
          refine d_val rfl (v_loadr lk38 gt0) pt39 ?_
          refine d_do gt34 ?_
          refine d_val rfl (v_mv lk1) pt40 ?_
          refine d_do gt34 ?_
          refine d_val rfl (v_mv lk7) pt41 ?_
          refine d_do gt34 ?_
          refine d_val rfl (v_iaR lk40 lk41 ln_len1 (Nat.le_of_ble_eq_true rfl) (by first | rfl | omega) (by omega) (by first | rfl | omega) rfl) pt42 ?_
          refine d_do gt34 ?_
          refine d_val rfl (v_far lk42 dp1) pt43 ?_
          refine d_do gt34 ?_
          refine d_val rfl (v_loadr lk43 gt0) pt44 ?_
          refine d_do gt34 ?_
          refine d_val rfl (v_eqbN lk39 lk44) pt45 ?_
          refine d_val rfl (v_pickF lk34 lk45) pt46 ?_
          refine d_val rfl (v_mv lk46) pt47 ?_
          first | refine d_splitP gt47 pt47 pt47 (fun hg47 => ?_) (fun hg47 => ?_) | refine d_splitB gt47 pt47 pt47 (fun hg47 => ?_) (fun hg47 => ?_)
          · skip
            have hS := sameLn_no (nums := nums) hka hkb (by unfold lnP; intro e; simp_all)
            refine d_no gt47 pt48 ?_
            refine d_no gt47 pt49 ?_
            refine d_no gt47 pt50 ?_
            refine d_no gt47 pt51 ?_
            refine d_no gt47 pt52 ?_
            refine d_no gt47 pt53 ?_
            refine d_no gt47 pt54 ?_
            refine d_no gt47 pt55 ?_
            refine d_no gt47 pt56 ?_
            refine d_no gt47 pt57 ?_
            refine d_no gt47 pt58 ?_
            refine d_no gt47 pt59 ?_
            refine d_no gt47 pt60 ?_
            refine d_val rfl (v_pickT lk47 lkb) pt61 ?_
            refine d_nil ?_
            refine e_nil ?_
            refine s_nil ?_
            refine n_seq ?_
            refine w_condT lk61 ?_
            refine w_seq ?_
            refine w_reg ?_
            refine s_val rfl (v_mv lkb) pt6 ?_
            refine s_nil ?_
            refine n_seq ?_
            refine w_rets ?_
            refine r_thn ?_
            refine r_blk ?_
            refine r_thn ?_
            refine r_thn ?_
            refine r_blk ?_
            refine r_thn ?_
            refine w_ret (rs1 (rr_t gt6)) ?_
            refine rt (by first | rfl | (simp only [AV.lt, AV.ltL, Ent.lt, List.all_cons, List.all_nil, Bool.and_true, Bool.and_self, decide_true, str_lt, ln_lt]; done) | (simp [AV.lt, AV.ltL, Ent.lt, str_lt, ln_lt, *]; done) | (simp [AV.lt, AV.ltL, Ent.lt, str_lt, ln_lt, *]; omega)) ?_
            rw [hS]
          · skip
            refine d_do gt47 ?_
            refine d_val rfl (v_mv lk0) pt48 ?_
            refine d_do gt47 ?_
            refine d_val rfl (v_mv lk7) pt49 ?_
            refine d_do gt47 ?_
            refine d_val rfl (v_iaR lk48 lk49 ln_len1 (Nat.le_of_ble_eq_true rfl) (by first | rfl | omega) (by omega) (by first | rfl | omega) rfl) pt50 ?_
            refine d_do gt47 ?_
            refine d_val rfl (v_far lk50 dp2) pt51 ?_
            refine d_do gt47 ?_
            refine d_val rfl (v_loadr lk51 gt0) pt52 ?_
            refine d_do gt47 ?_
            refine d_val rfl ((by first | exact v_lenL lk52 | exact v_lenO lk52)) pt53 ?_
            refine d_do gt47 ?_
            refine d_val rfl (v_mv lk1) pt54 ?_
            refine d_do gt47 ?_
            refine d_val rfl (v_mv lk7) pt55 ?_
            refine d_do gt47 ?_
            refine d_val rfl (v_iaR lk54 lk55 ln_len1 (Nat.le_of_ble_eq_true rfl) (by first | rfl | omega) (by omega) (by first | rfl | omega) rfl) pt56 ?_
            refine d_do gt47 ?_
            refine d_val rfl (v_far lk56 dp2) pt57 ?_
            refine d_do gt47 ?_
            refine d_val rfl (v_loadr lk57 gt0) pt58 ?_
            refine d_do gt47 ?_
            refine d_val rfl ((by first | exact v_lenL lk58 | exact v_lenO lk58)) pt59 ?_
            refine d_do gt47 ?_
            refine d_val rfl (v_neq lk53 lk59) pt60 ?_
            refine d_val rfl (v_pickF lk47 lk60) pt61 ?_
            refine d_nil ?_
            refine e_nil ?_
            refine s_nil ?_
            refine n_seq ?_
            first | refine w_cond lk61 (fun hc3 => ?_) (fun hc3 => ?_) | refine w_condB lk61 (fun hc3 => ?_) (fun hc3 => ?_)
            · skip
              have hS := sameLn_no (nums := nums) hka hkb (by unfold lnP; intro e; simp_all)
              refine w_seq ?_
              refine w_reg ?_
              refine s_val rfl (v_mv lkb) pt6 ?_
              refine s_nil ?_
              refine n_seq ?_
              refine w_rets ?_
              refine r_thn ?_
              refine r_blk ?_
              refine r_thn ?_
              refine r_thn ?_
              refine r_blk ?_
              refine r_thn ?_
              refine w_ret (rs1 (rr_t gt6)) ?_
              refine rt (by first | rfl | (simp only [AV.lt, AV.ltL, Ent.lt, List.all_cons, List.all_nil, Bool.and_true, Bool.and_self, decide_true, str_lt, ln_lt]; done) | (simp [AV.lt, AV.ltL, Ent.lt, str_lt, ln_lt, *]; done) | (simp [AV.lt, AV.ltL, Ent.lt, str_lt, ln_lt, *]; omega)) ?_
              rw [hS]
            · skip
              have hl2 : (a[k]).2.2.length = (b[k]).2.2.length := by omega
              have hM : (a[k]).2.2 = (b[k]).2.2 → lnP nums a[k] = lnP nums b[k] := by
                intro e
                unfold lnP
                refine Prod.ext ?_ (Prod.ext ?_ e)
                · simp_all
                · simp_all
              refine w_skip ?_
              refine n_seq ?_
              refine w_seq ?_
              refine w_reg ?_
              refine s_val rfl (v_mv lki) pt8 ?_
              refine s_nil ?_
              refine n_seq ?_
              refine w_block ?_
              refine w_loop (ι := Nat) (fun (j : Nat) => [(8, iv (j : Int)), (6, .any), (62, .any), (63, .any), (64, .any), (65, .any), (66, .any), (67, .any), (68, .any), (69, .any), (70, .any), (71, .any), (72, .any), (73, .any), (74, .any), (75, .any), (76, .any), (77, .any), (78, .any), (79, .any), (80, .any), (81, .any), (82, .any), (83, .any), (84, .any), (85, .any), (86, .any), (87, .any), (88, .any)]) (fun (j : Nat) => []) (fun (j : Nat) => j ≤ (a[k]).2.2.length ∧ (a[k]).2.2.take j = (b[k]).2.2.take j) (fun (j : Nat) => (a[k]).2.2.length - j) (0) (by exact ⟨by omega, by simp⟩) (by try simp only [setsT, setsE, List.set_cons_zero, List.set_cons_succ]; exact ALe.same (wk1 rfl (wk1 rfl (wk1 rfl (wk1 rfl (wk1 rfl (wk1 rfl (wka (wk1 rfl (wk1 (by first | rfl | exact ivx (by omega) | (simp; done)) (wk1 rfl (wk1 rfl (wk1 rfl (wk1 rfl (wk1 rfl (wk1 rfl (wk1 rfl (wk1 rfl (wk1 rfl (wk1 rfl (wk1 rfl (wk1 rfl (wk1 rfl (wk1 rfl (wk1 rfl (wk1 rfl (wk1 rfl (wk1 rfl (wk1 rfl (wk1 rfl (wk1 rfl (wk1 rfl (wk1 rfl (wk1 rfl (wk1 rfl (wk1 rfl (wk1 rfl (wk1 rfl (wk1 rfl (wk1 rfl (wk1 rfl (wk1 rfl (wk1 rfl (wk1 rfl (wk1 rfl (wk1 rfl (wk1 rfl (wk1 rfl (wk1 rfl (wk1 rfl (wk1 rfl (wk1 rfl (wk1 rfl (wk1 rfl (wk1 rfl (wk1 rfl (wk1 rfl (wk1 rfl (wk1 rfl (wk1 rfl (wk1 rfl (wk1 rfl (wk1 rfl (wka (wka (wka (wka (wka (wka (wka (wka (wka (wka (wka (wka (wka (wka (wka (wka (wka (wka (wka (wka (wka (wka (wka (wka (wka (wka (wka wk0))))))))))))))))))))))))))))))))))))))))))))))))))))))))))))))))))))))))))))))))))))))))) rfl) ?_
              rintro j hi2
              try simp only [setsT, setsE, List.set_cons_zero, List.set_cons_succ]
              obtain ⟨hj1, hj2⟩ := hi2
              refine w_seq ?_
              refine w_seq ?_
              refine w_reg ?_
              refine s_val rfl (v_mv lk8) pt62 ?_
              refine s_val rfl (v_mv lk0) pt63 ?_
              refine s_val rfl (v_mv lk7) pt64 ?_
              refine s_val rfl (v_iaR lk63 lk64 ln_len1 (Nat.le_of_ble_eq_true rfl) (by first | rfl | omega) (by omega) (by first | rfl | omega) rfl) pt65 ?_
              refine s_val rfl (v_far lk65 dp2) pt66 ?_
              refine s_val rfl (v_loadr lk66 gt0) pt67 ?_
              refine s_val rfl ((by first | exact v_lenL lk67 | exact v_lenO lk67)) pt68 ?_
              refine s_val rfl (v_lss lk62 lk68) pt69 ?_
              refine s_nil ?_
              refine n_seq ?_
              first | refine w_cond lk69 (fun hc4 => ?_) (fun hc4 => ?_) | refine w_condB lk69 (fun hc4 => ?_) (fun hc4 => ?_)
              · skip
                have hja : j < (a[k]).2.2.length := by omega
                have hjb : j < (b[k]).2.2.length := by omega
                refine w_skip ?_
                refine n_seq ?_
                refine w_seq ?_
                refine w_block ?_
                refine w_seq ?_
                refine w_drwE ?_
                refine d_val rfl (v_mv lk0) (ptS pt2) ?_
                refine d_val rfl (v_mv lk7) (ptS pt3) ?_
                refine d_val rfl (v_iaR (lkS lk2) (lkS lk3) ln_len1 (Nat.le_of_ble_eq_true rfl) (by first | rfl | omega) (by omega) (by first | rfl | omega) rfl) (ptS pt4) ?_
                refine d_val rfl (v_far (lkS lk4) dp2) (ptS pt5) ?_
                refine d_val rfl (v_loadr (lkS lk5) gt0) (ptS pt6) ?_
                refine d_val rfl (v_mv lk8) (ptS pt7) ?_
                refine d_val rfl (v_iaR (lkS lk6) (lkS lk7) str_len1 (Nat.le_of_ble_eq_true rfl) (by first | rfl | omega) (by omega) (by first | rfl | omega) rfl) (ptS pt8) ?_
                refine d_val rfl (v_loadr (lkS lk8) gt0) (ptS pt9) ?_
                refine d_val rfl (v_mv lk1) (ptS pt10) ?_
                refine d_val rfl (v_mv lk7) (ptS pt11) ?_
                refine d_val rfl (v_iaR (lkS lk10) (lkS lk11) ln_len1 (Nat.le_of_ble_eq_true rfl) (by first | rfl | omega) (by omega) (by first | rfl | omega) rfl) (ptS pt12) ?_
                refine d_val rfl (v_far (lkS lk12) dp2) (ptS pt13) ?_
                refine d_val rfl (v_loadr (lkS lk13) gt0) (ptS pt14) ?_
                refine d_val rfl (v_mv lk8) (ptS pt15) ?_
                refine d_val rfl (v_iaR (lkS lk14) (lkS lk15) str_len1 (Nat.le_of_ble_eq_true rfl) (by first | rfl | omega) (by omega) (by first | rfl | omega) rfl) (ptS pt16) ?_
                refine d_val rfl (v_loadr (lkS lk16) gt0) (ptS pt17) ?_
                refine d_val rfl ((by first | exact v_neq (lkS lk9) (lkS lk17) | exact v_neqS (lkS lk9) (lkS lk17))) (ptS pt18) ?_
                refine d_nil ?_
                refine e_nil ?_
                refine s_nil ?_
                refine n_seq ?_
                first | refine w_cond (lkS lk18) (fun hc5 => ?_) (fun hc5 => ?_) | refine w_condB (lkS lk18) (fun hc5 => ?_) (fun hc5 => ?_)
                · skip
                  have hS := sameLn_no (nums := nums) hka hkb (fun e => hc5 (by have e2 := congrArg (fun x => x.2.2[j]?) e; simpa [lnP, hja, hjb] using e2))
                  refine w_seq ?_
                  refine w_reg ?_
                  refine s_val rfl (v_mv lkb) pt6 ?_
                  refine s_nil ?_
                  refine n_seq ?_
                  refine w_rets ?_
                  refine r_blk ?_
                  refine r_thn ?_
                  refine r_thn ?_
                  refine r_blk ?_
                  refine r_blk ?_
                  refine r_thn ?_
                  refine r_thn ?_
                  refine r_blk ?_
                  refine r_thn ?_
                  refine w_ret (rs1 (rr_t gt6)) ?_
                  refine rt (by first | rfl | (simp only [AV.lt, AV.ltL, Ent.lt, List.all_cons, List.all_nil, Bool.and_true, Bool.and_self, decide_true, str_lt, ln_lt]; done) | (simp [AV.lt, AV.ltL, Ent.lt, str_lt, ln_lt, *]; done) | (simp [AV.lt, AV.ltL, Ent.lt, str_lt, ln_lt, *]; omega)) ?_
                  rw [hS]
                · skip
                  refine w_skip ?_
                  refine n_blk ?_
                  refine n_seq ?_
                  refine w_reg ?_
                  refine s_val rfl (v_mv lk8) (ptS pt0) ?_
                  refine s_val rfl (v_add (lkS lk0) lki (by omega) (by omega)) (ptS pt1) ?_
                  refine s_val rfl (v_mv (lkS lk1)) pt8 ?_
                  refine s_nil ?_
                  refine n_thn ?_
                  refine LoopTo.mk (j + 1) (by first | omega | (dsimp only; omega)) (by (try dsimp only); exact ⟨by omega, by rw [List.take_succ_eq_append_getElem hja, List.take_succ_eq_append_getElem hjb, hj2, Decidable.of_not_not hc5]⟩) (by (try dsimp only); (try simp only [setsT, setsE, List.set_cons_zero, List.set_cons_succ]); exact ALe.same (wk1 rfl (wk1 rfl (wk1 rfl (wk1 rfl (wk1 rfl (wk1 rfl (wka (wk1 rfl (wk1 (by first | rfl | exact ivx (by omega) | (simp; done)) (wk1 rfl (wk1 rfl (wk1 rfl (wk1 rfl (wk1 rfl (wk1 rfl (wk1 rfl (wk1 rfl (wk1 rfl (wk1 rfl (wk1 rfl (wk1 rfl (wk1 rfl (wk1 rfl (wk1 rfl (wk1 rfl (wk1 rfl (wk1 rfl (wk1 rfl (wk1 rfl (wk1 rfl (wk1 rfl (wk1 rfl (wk1 rfl (wk1 rfl (wk1 rfl (wk1 rfl (wk1 rfl (wk1 rfl (wk1 rfl (wk1 rfl (wk1 rfl (wk1 rfl (wk1 rfl (wk1 rfl (wk1 rfl (wk1 rfl (wk1 rfl (wk1 rfl (wk1 rfl (wk1 rfl (wk1 rfl (wk1 rfl (wk1 rfl (wk1 rfl (wk1 rfl (wk1 rfl (wk1 rfl (wk1 rfl (wk1 rfl (wk1 rfl (wk1 rfl (wk1 rfl (wka (wka (wka (wka (wka (wka (wka (wka (wka (wka (wka (wka (wka (wka (wka (wka (wka (wka (wka (wka (wka (wka (wka (wka (wka (wka (wka wk0))))))))))))))))))))))))))))))))))))))))))))))))))))))))))))))))))))))))))))))))))))))))) rfl)
              · skip
                have hf : (a[k]).2.2 = (b[k]).2.2 := by
                  rw [List.take_of_length_le (by omega), List.take_of_length_le (by omega)] at hj2; exact hj2
                have hf2 := hM hf
                refine w_exit ?_
                refine x_thn ?_
                refine x_thn ?_
                refine x_blk ?_
                refine n_blk ?_
                refine n_seq ?_
                refine w_reg ?_
                refine s_val rfl (v_mv lk7) pt18 ?_
                refine s_val rfl (v_add lk18 lki (by omega) (by omega)) pt19 ?_
                refine s_val rfl (v_mv lk19) pt7 ?_
                refine s_nil ?_
                refine n_thn ?_
                refine LoopTo.mk (k + 1) (by first | omega | (dsimp only; omega)) (by (try dsimp only); exact ⟨by omega, by rw [List.take_succ_eq_append_getElem hka, List.take_succ_eq_append_getElem hkb, List.map_append, List.map_append, hk2]; simp [hf2]⟩) (by (try dsimp only); (try simp only [setsT, setsE, List.set_cons_zero, List.set_cons_succ]); exact ALe.same (wk1 rfl (wk1 rfl (wk1 rfl (wk1 rfl (wk1 rfl (wk1 rfl (wka (wk1 (by first | rfl | exact ivx (by omega) | (simp; done)) (wka (wk1 rfl (wk1 rfl (wk1 rfl (wk1 rfl (wk1 rfl (wka (wka (wka (wka (wka (wka (wka (wka (wka (wka (wka (wka (wka (wka (wka (wka (wka (wka (wka (wka (wka (wka (wka (wka (wka (wka (wka (wka (wka (wka (wka (wka (wka (wka (wka (wka (wka (wka (wka (wka (wka (wka (wka (wka (wka (wka (wka (wka (wka (wka (wka (wka (wka (wka (wka (wka (wka (wka (wka (wka (wka (wka (wka (wka (wka (wka (wka (wka (wka (wka (wka (wka (wka (wka (wka wk0))))))))))))))))))))))))))))))))))))))))))))))))))))))))))))))))))))))))))))))))))))))))) rfl)
      · skip
        refine d_no gt21 pt22 ?_
        refine d_no gt21 pt23 ?_
        refine d_no gt21 pt24 ?_
        refine d_no gt21 pt25 ?_
        refine d_no gt21 pt26 ?_
        refine d_no gt21 pt27 ?_
        refine d_no gt21 pt28 ?_
        refine d_no gt21 pt29 ?_
        refine d_no gt21 pt30 ?_
        refine d_no gt21 pt31 ?_
        refine d_no gt21 pt32 ?_
        refine d_val rfl (v_pickF lk21 lkb) pt33 ?_
        refine d_val rfl (v_mv lk33) pt34 ?_
        refine d_do gt34 ?_
        refine d_val rfl (v_mv lk0) pt35 ?_
        refine d_do gt34 ?_
        refine d_val rfl (v_mv lk7) pt36 ?_
        refine d_do gt34 ?_
        refine d_val rfl (v_iaR lk35 lk36 ln_len1 (Nat.le_of_ble_eq_true rfl) (by first | rfl | omega) (by omega) (by first | rfl | omega) rfl) pt37 ?_
        refine d_do gt34 ?_
        refine d_val rfl (v_far lk37 dp1) pt38 ?_
        refine d_do gt34 ?_
        refine d_val rfl (v_loadr lk38 gt0) pt39 ?_
        refine d_do gt34 ?_
        refine d_val rfl (v_mv lk1) pt40 ?_
        refine d_do gt34 ?_
        refine d_val rfl (v_mv lk7) pt41 ?_
        refine d_do gt34 ?_
        refine d_val rfl (v_iaR lk40 lk41 ln_len1 (Nat.le_of_ble_eq_true rfl) (by first | rfl | omega) (by omega) (by first | rfl | omega) rfl) pt42 ?_
        refine d_do gt34 ?_
        refine d_val rfl (v_far lk42 dp1) pt43 ?_
        refine d_do gt34 ?_
        refine d_val rfl (v_loadr lk43 gt0) pt44 ?_
        refine d_do gt34 ?_
        refine d_val rfl (v_eqbN lk39 lk44) pt45 ?_
        refine d_val rfl (v_pickF lk34 lk45) pt46 ?_
        refine d_val rfl (v_mv lk46) pt47 ?_
        first | refine d_splitP gt47 pt47 pt47 (fun hg47 => ?_) (fun hg47 => ?_) | refine d_splitB gt47 pt47 pt47 (fun hg47 => ?_) (fun hg47 => ?_)
        · skip
          have hS := sameLn_no (nums := nums) hka hkb (by unfold lnP; intro e; simp_all)
          refine d_no gt47 pt48 ?_
          refine d_no gt47 pt49 ?_
          refine d_no gt47 pt50 ?_
          refine d_no gt47 pt51 ?_
          refine d_no gt47 pt52 ?_
          refine d_no gt47 pt53 ?_
          refine d_no gt47 pt54 ?_
          refine d_no gt47 pt55 ?_
          refine d_no gt47 pt56 ?_
          refine d_no gt47 pt57 ?_
          refine d_no gt47 pt58 ?_
          refine d_no gt47 pt59 ?_
          refine d_no gt47 pt60 ?_
          refine d_val rfl (v_pickT lk47 lkb) pt61 ?_
          refine d_nil ?_
          refine e_nil ?_
          refine s_nil ?_
          refine n_seq ?_
          refine w_condT lk61 ?_
          refine w_seq ?_
          refine w_reg ?_
          refine s_val rfl (v_mv lkb) pt6 ?_
          refine s_nil ?_
          refine n_seq ?_
          refine w_rets ?_
          refine r_thn ?_
          refine r_blk ?_
          refine r_thn ?_
          refine r_thn ?_
          refine r_blk ?_
          refine r_thn ?_
          refine w_ret (rs1 (rr_t gt6)) ?_
          refine rt (by first | rfl | (simp only [AV.lt, AV.ltL, Ent.lt, List.all_cons, List.all_nil, Bool.and_true, Bool.and_self, decide_true, str_lt, ln_lt]; done) | (simp [AV.lt, AV.ltL, Ent.lt, str_lt, ln_lt, *]; done) | (simp [AV.lt, AV.ltL, Ent.lt, str_lt, ln_lt, *]; omega)) ?_
          rw [hS]
        · skip
          refine d_do gt47 ?_
          refine d_val rfl (v_mv lk0) pt48 ?_
          refine d_do gt47 ?_
          refine d_val rfl (v_mv lk7) pt49 ?_
          refine d_do gt47 ?_
          refine d_val rfl (v_iaR lk48 lk49 ln_len1 (Nat.le_of_ble_eq_true rfl) (by first | rfl | omega) (by omega) (by first | rfl | omega) rfl) pt50 ?_
          refine d_do gt47 ?_
          refine d_val rfl (v_far lk50 dp2) pt51 ?_
          refine d_do gt47 ?_
          refine d_val rfl (v_loadr lk51 gt0) pt52 ?_
          refine d_do gt47 ?_
          refine d_val rfl ((by first | exact v_lenL lk52 | exact v_lenO lk52)) pt53 ?_
          refine d_do gt47 ?_
          refine d_val rfl (v_mv lk1) pt54 ?_
          refine d_do gt47 ?_
          refine d_val rfl (v_mv lk7) pt55 ?_
          refine d_do gt47 ?_
          refine d_val rfl (v_iaR lk54 lk55 ln_len1 (Nat.le_of_ble_eq_true rfl) (by first | rfl | omega) (by omega) (by first | rfl | omega) rfl) pt56 ?_
          refine d_do gt47 ?_
          refine d_val rfl (v_far lk56 dp2) pt57 ?_
          refine d_do gt47 ?_
          refine d_val rfl (v_loadr lk57 gt0) pt58 ?_
          refine d_do gt47 ?_
          refine d_val rfl ((by first | exact v_lenL lk58 | exact v_lenO lk58)) pt59 ?_
          refine d_do gt47 ?_
          refine d_val rfl (v_neq lk53 lk59) pt60 ?_
          refine d_val rfl (v_pickF lk47 lk60) pt61 ?_
          refine d_nil ?_
          refine e_nil ?_
          refine s_nil ?_
          refine n_seq ?_
          first | refine w_cond lk61 (fun hc3 => ?_) (fun hc3 => ?_) | refine w_condB lk61 (fun hc3 => ?_) (fun hc3 => ?_)
          · skip
            have hS := sameLn_no (nums := nums) hka hkb (by unfold lnP; intro e; simp_all)
            refine w_seq ?_
            refine w_reg ?_
            refine s_val rfl (v_mv lkb) pt6 ?_
            refine s_nil ?_
            refine n_seq ?_
            refine w_rets ?_
            refine r_thn ?_
            refine r_blk ?_
            refine r_thn ?_
            refine r_thn ?_
            refine r_blk ?_
            refine r_thn ?_
            refine w_ret (rs1 (rr_t gt6)) ?_
            refine rt (by first | rfl | (simp only [AV.lt, AV.ltL, Ent.lt, List.all_cons, List.all_nil, Bool.and_true, Bool.and_self, decide_true, str_lt, ln_lt]; done) | (simp [AV.lt, AV.ltL, Ent.lt, str_lt, ln_lt, *]; done) | (simp [AV.lt, AV.ltL, Ent.lt, str_lt, ln_lt, *]; omega)) ?_
            rw [hS]
          · skip
            have hl2 : (a[k]).2.2.length = (b[k]).2.2.length := by omega
            have hM : (a[k]).2.2 = (b[k]).2.2 → lnP nums a[k] = lnP nums b[k] := by
              intro e
              unfold lnP
              refine Prod.ext ?_ (Prod.ext ?_ e)
              · simp_all
              · simp_all
            refine w_skip ?_
            refine n_seq ?_
            refine w_seq ?_
            refine w_reg ?_
            refine s_val rfl (v_mv lki) pt8 ?_
            refine s_nil ?_
            refine n_seq ?_
            refine w_block ?_
            refine w_loop (ι := Nat) (fun (j : Nat) => [(8, iv (j : Int)), (6, .any), (62, .any), (63, .any), (64, .any), (65, .any), (66, .any), (67, .any), (68, .any), (69, .any), (70, .any), (71, .any), (72, .any), (73, .any), (74, .any), (75, .any), (76, .any), (77, .any), (78, .any), (79, .any), (80, .any), (81, .any), (82, .any), (83, .any), (84, .any), (85, .any), (86, .any), (87, .any), (88, .any)]) (fun (j : Nat) => []) (fun (j : Nat) => j ≤ (a[k]).2.2.length ∧ (a[k]).2.2.take j = (b[k]).2.2.take j) (fun (j : Nat) => (a[k]).2.2.length - j) (0) (by exact ⟨by omega, by simp⟩) (by try simp only [setsT, setsE, List.set_cons_zero, List.set_cons_succ]; exact ALe.same (wk1 rfl (wk1 rfl (wk1 rfl (wk1 rfl (wk1 rfl (wk1 rfl (wka (wk1 rfl (wk1 (by first | rfl | exact ivx (by omega) | (simp; done)) (wk1 rfl (wk1 rfl (wk1 rfl (wk1 rfl (wk1 rfl (wk1 rfl (wk1 rfl (wk1 rfl (wk1 rfl (wk1 rfl (wk1 rfl (wk1 rfl (wk1 rfl (wk1 rfl (wk1 rfl (wk1 rfl (wk1 rfl (wk1 rfl (wk1 rfl (wk1 rfl (wk1 rfl (wk1 rfl (wk1 rfl (wk1 rfl (wk1 rfl (wk1 rfl (wk1 rfl (wk1 rfl (wk1 rfl (wk1 rfl (wk1 rfl (wk1 rfl (wk1 rfl (wk1 rfl (wk1 rfl (wk1 rfl (wk1 rfl (wk1 rfl (wk1 rfl (wk1 rfl (wk1 rfl (wk1 rfl (wk1 rfl (wk1 rfl (wk1 rfl (wk1 rfl (wk1 rfl (wk1 rfl (wk1 rfl (wk1 rfl (wk1 rfl (wk1 rfl (wk1 rfl (wka (wka (wka (wka (wka (wka (wka (wka (wka (wka (wka (wka (wka (wka (wka (wka (wka (wka (wka (wka (wka (wka (wka (wka (wka (wka (wka wk0))))))))))))))))))))))))))))))))))))))))))))))))))))))))))))))))))))))))))))))))))))))))) rfl) ?_
            rintro j hi2
            try simp only [setsT, setsE, List.set_cons_zero, List.set_cons_succ]
            obtain ⟨hj1, hj2⟩ := hi2
            refine w_seq ?_
            refine w_seq ?_
            refine w_reg ?_
            refine s_val rfl (v_mv lk8) pt62 ?_
            refine s_val rfl (v_mv lk0) pt63 ?_
            refine s_val rfl (v_mv lk7) pt64 ?_
            refine s_val rfl (v_iaR lk63 lk64 ln_len1 (Nat.le_of_ble_eq_true rfl) (by first | rfl | omega) (by omega) (by first | rfl | omega) rfl) pt65 ?_
            refine s_val rfl (v_far lk65 dp2) pt66 ?_
            refine s_val rfl (v_loadr lk66 gt0) pt67 ?_
            refine s_val rfl ((by first | exact v_lenL lk67 | exact v_lenO lk67)) pt68 ?_
            refine s_val rfl (v_lss lk62 lk68) pt69 ?_
            refine s_nil ?_
            refine n_seq ?_
            first | refine w_cond lk69 (fun hc4 => ?_) (fun hc4 => ?_) | refine w_condB lk69 (fun hc4 => ?_) (fun hc4 => ?_)
            · skip
              have hja : j < (a[k]).2.2.length := by omega
              have hjb : j < (b[k]).2.2.length := by omega
              refine w_skip ?_
              refine n_seq ?_
              refine w_seq ?_
              refine w_block ?_
              refine w_seq ?_
              refine w_drwE ?_
              refine d_val rfl (v_mv lk0) (ptS pt2) ?_
              refine d_val rfl (v_mv lk7) (ptS pt3) ?_
              refine d_val rfl (v_iaR (lkS lk2) (lkS lk3) ln_len1 (Nat.le_of_ble_eq_true rfl) (by first | rfl | omega) (by omega) (by first | rfl | omega) rfl) (ptS pt4) ?_
              refine d_val rfl (v_far (lkS lk4) dp2) (ptS pt5) ?_
              refine d_val rfl (v_loadr (lkS lk5) gt0) (ptS pt6) ?_
              refine d_val rfl (v_mv lk8) (ptS pt7) ?_
              refine d_val rfl (v_iaR (lkS lk6) (lkS lk7) str_len1 (Nat.le_of_ble_eq_true rfl) (by first | rfl | omega) (by omega) (by first | rfl | omega) rfl) (ptS pt8) ?_
              refine d_val rfl (v_loadr (lkS lk8) gt0) (ptS pt9) ?_
              refine d_val rfl (v_mv lk1) (ptS pt10) ?_
              refine d_val rfl (v_mv lk7) (ptS pt11) ?_
              refine d_val rfl (v_iaR (lkS lk10) (lkS lk11) ln_len1 (Nat.le_of_ble_eq_true rfl) (by first | rfl | omega) (by omega) (by first | rfl | omega) rfl) (ptS pt12) ?_
              refine d_val rfl (v_far (lkS lk12) dp2) (ptS pt13) ?_
              refine d_val rfl (v_loadr (lkS lk13) gt0) (ptS pt14) ?_
              refine d_val rfl (v_mv lk8) (ptS pt15) ?_
              refine d_val rfl (v_iaR (lkS lk14) (lkS lk15) str_len1 (Nat.le_of_ble_eq_true rfl) (by first | rfl | omega) (by omega) (by first | rfl | omega) rfl) (ptS pt16) ?_
              refine d_val rfl (v_loadr (lkS lk16) gt0) (ptS pt17) ?_
              refine d_val rfl ((by first | exact v_neq (lkS lk9) (lkS lk17) | exact v_neqS (lkS lk9) (lkS lk17))) (ptS pt18) ?_
              refine d_nil ?_
              refine e_nil ?_
              refine s_nil ?_
              refine n_seq ?_
              first | refine w_cond (lkS lk18) (fun hc5 => ?_) (fun hc5 => ?_) | refine w_condB (lkS lk18) (fun hc5 => ?_) (fun hc5 => ?_)
              · skip
                have hS := sameLn_no (nums := nums) hka hkb (fun e => hc5 (by have e2 := congrArg (fun x => x.2.2[j]?) e; simpa [lnP, hja, hjb] using e2))
                refine w_seq ?_
                refine w_reg ?_
                refine s_val rfl (v_mv lkb) pt6 ?_
                refine s_nil ?_
                refine n_seq ?_
                refine w_rets ?_
                refine r_blk ?_
                refine r_thn ?_
                refine r_thn ?_
                refine r_blk ?_
                refine r_blk ?_
                refine r_thn ?_
                refine r_thn ?_
                refine r_blk ?_
                refine r_thn ?_
                refine w_ret (rs1 (rr_t gt6)) ?_
                refine rt (by first | rfl | (simp only [AV.lt, AV.ltL, Ent.lt, List.all_cons, List.all_nil, Bool.and_true, Bool.and_self, decide_true, str_lt, ln_lt]; done) | (simp [AV.lt, AV.ltL, Ent.lt, str_lt, ln_lt, *]; done) | (simp [AV.lt, AV.ltL, Ent.lt, str_lt, ln_lt, *]; omega)) ?_
                rw [hS]
              · skip
                refine w_skip ?_
                refine n_blk ?_
                refine n_seq ?_
                refine w_reg ?_
                refine s_val rfl (v_mv lk8) (ptS pt0) ?_
                refine s_val rfl (v_add (lkS lk0) lki (by omega) (by omega)) (ptS pt1) ?_
                refine s_val rfl (v_mv (lkS lk1)) pt8 ?_
                refine s_nil ?_
                refine n_thn ?_
                refine LoopTo.mk (j + 1) (by first | omega | (dsimp only; omega)) (by (try dsimp only); exact ⟨by omega, by rw [List.take_succ_eq_append_getElem hja, List.take_succ_eq_append_getElem hjb, hj2, Decidable.of_not_not hc5]⟩) (by (try dsimp only); (try simp only [setsT, setsE, List.set_cons_zero, List.set_cons_succ]); exact ALe.same (wk1 rfl (wk1 rfl (wk1 rfl (wk1 rfl (wk1 rfl (wk1 rfl (wka (wk1 rfl (wk1 (by first | rfl | exact ivx (by omega) | (simp; done)) (wk1 rfl (wk1 rfl (wk1 rfl (wk1 rfl (wk1 rfl (wk1 rfl (wk1 rfl (wk1 rfl (wk1 rfl (wk1 rfl (wk1 rfl (wk1 rfl (wk1 rfl (wk1 rfl (wk1 rfl (wk1 rfl (wk1 rfl (wk1 rfl (wk1 rfl (wk1 rfl (wk1 rfl (wk1 rfl (wk1 rfl (wk1 rfl (wk1 rfl (wk1 rfl (wk1 rfl (wk1 rfl (wk1 rfl (wk1 rfl (wk1 rfl (wk1 rfl (wk1 rfl (wk1 rfl (wk1 rfl (wk1 rfl (wk1 rfl (wk1 rfl (wk1 rfl (wk1 rfl (wk1 rfl (wk1 rfl (wk1 rfl (wk1 rfl (wk1 rfl (wk1 rfl (wk1 rfl (wk1 rfl (wk1 rfl (wk1 rfl (wk1 rfl (wk1 rfl (wk1 rfl (wka (wka (wka (wka (wka (wka (wka (wka (wka (wka (wka (wka (wka (wka (wka (wka (wka (wka (wka (wka (wka (wka (wka (wka (wka (wka (wka wk0))))))))))))))))))))))))))))))))))))))))))))))))))))))))))))))))))))))))))))))))))))))))) rfl)
            · skip
              have hf : (a[k]).2.2 = (b[k]).2.2 := by
                rw [List.take_of_length_le (by omega), List.take_of_length_le (by omega)] at hj2; exact hj2
              have hf2 := hM hf
              refine w_exit ?_
              refine x_thn ?_
              refine x_thn ?_
              refine x_blk ?_
              refine n_blk ?_
              refine n_seq ?_
              refine w_reg ?_
              refine s_val rfl (v_mv lk7) pt18 ?_
              refine s_val rfl (v_add lk18 lki (by omega) (by omega)) pt19 ?_
              refine s_val rfl (v_mv lk19) pt7 ?_
              refine s_nil ?_
              refine n_thn ?_
              refine LoopTo.mk (k + 1) (by first | omega | (dsimp only; omega)) (by (try dsimp only); exact ⟨by omega, by rw [List.take_succ_eq_append_getElem hka, List.take_succ_eq_append_getElem hkb, List.map_append, List.map_append, hk2]; simp [hf2]⟩) (by (try dsimp only); (try simp only [setsT, setsE, List.set_cons_zero, List.set_cons_succ]); exact ALe.same (wk1 rfl (wk1 rfl (wk1 rfl (wk1 rfl (wk1 rfl (wk1 rfl (wka (wk1 (by first | rfl | exact ivx (by omega) | (simp; done)) (wka (wk1 rfl (wk1 rfl (wk1 rfl (wk1 rfl (wk1 rfl (wka (wka (wka (wka (wka (wka (wka (wka (wka (wka (wka (wka (wka (wka (wka (wka (wka (wka (wka (wka (wka (wka (wka (wka (wka (wka (wka (wka (wka (wka (wka (wka (wka (wka (wka (wka (wka (wka (wka (wka (wka (wka (wka (wka (wka (wka (wka (wka (wka (wka (wka (wka (wka (wka (wka (wka (wka (wka (wka (wka (wka (wka (wka (wka (wka (wka (wka (wka (wka (wka (wka (wka (wka (wka (wka wk0))))))))))))))))))))))))))))))))))))))))))))))))))))))))))))))))))))))))))))))))))))))))) rfl)
    · skip
      refine w_exit ?_
      refine x_thn ?_
      refine x_thn ?_
      refine x_blk ?_
      refine n_seq ?_
      refine w_seq ?_
      refine w_reg ?_
      refine s_val rfl (v_mv lkb) pt6 ?_
      refine s_nil ?_
      refine n_seq ?_
      refine w_rets ?_
      refine w_ret (rs1 (rr_t gt6)) ?_
      refine rt (by first | rfl | (simp only [AV.lt, AV.ltL, Ent.lt, List.all_cons, List.all_nil, Bool.and_true, Bool.and_self, decide_true, str_lt, ln_lt]; done) | (simp [AV.lt, AV.ltL, Ent.lt, str_lt, ln_lt, *]; done) | (simp [AV.lt, AV.ltL, Ent.lt, str_lt, ln_lt, *]; omega)) ?_
      rw [show sameLn nums a b = true from decide_eq_true (by rw [List.take_of_length_le (by omega), List.take_of_length_le (by omega)] at hk2; exact hk2)]
end Go.Proofs.YtgjchdhdopgkkaaDoor
