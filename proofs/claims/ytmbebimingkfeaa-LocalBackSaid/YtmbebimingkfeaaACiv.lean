/-
  Contracts on plain data: civil's months, numbers, dates. Conditions: those that each theorem names.
-/
import Derived.Test.YtmbebimingkfeaaATabB
set_option linter.unusedVariables false
set_option linter.unusedSimpArgs false
set_option maxRecDepth 100000
namespace Go.Proofs.Ytmbebimingkfeaa
open Go.Ab Civ
section
theorem ACiv_lengths_2 {τ : Operand → AV} {y0 y1 y2 y3 y4 y5 y6 y7 y8 y9 y10 y11 : Operand} {x0_0 x1_0 x2_0 x3_0 x4_0 x5_0 x6_0 x7_0 x8_0 x9_0 x10_0 x11_0 : AV} (h0 : cellsV (τ y0) = some [x0_0]) (l0 : [x0_0].all leaf = true) (h1 : cellsV (τ y1) = some [x1_0]) (l1 : [x1_0].all leaf = true) (h2 : cellsV (τ y2) = some [x2_0]) (l2 : [x2_0].all leaf = true) (h3 : cellsV (τ y3) = some [x3_0]) (l3 : [x3_0].all leaf = true) (h4 : cellsV (τ y4) = some [x4_0]) (l4 : [x4_0].all leaf = true) (h5 : cellsV (τ y5) = some [x5_0]) (l5 : [x5_0].all leaf = true) (h6 : cellsV (τ y6) = some [x6_0]) (l6 : [x6_0].all leaf = true) (h7 : cellsV (τ y7) = some [x7_0]) (l7 : [x7_0].all leaf = true) (h8 : cellsV (τ y8) = some [x8_0]) (l8 : [x8_0].all leaf = true) (h9 : cellsV (τ y9) = some [x9_0]) (l9 : [x9_0].all leaf = true) (h10 : cellsV (τ y10) = some [x10_0]) (l10 : [x10_0].all leaf = true) (h11 : cellsV (τ y11) = some [x11_0]) (l11 : [x11_0].all leaf = true) : fillAV τ [(0, 1, y0), (1, 1, y1), (2, 1, y2), (3, 1, y3), (4, 1, y4), (5, 1, y5), (6, 1, y6), (7, 1, y7), (8, 1, y8), (9, 1, y9), (10, 1, y10), (11, 1, y11)] [(.v (.int .i64 0)), (.v (.int .i64 0)), (.v (.int .i64 0)), (.v (.int .i64 0)), (.v (.int .i64 0)), (.v (.int .i64 0)), (.v (.int .i64 0)), (.v (.int .i64 0)), (.v (.int .i64 0)), (.v (.int .i64 0)), (.v (.int .i64 0)), (.v (.int .i64 0))] = some [x0_0, x1_0, x2_0, x3_0, x4_0, x5_0, x6_0, x7_0, x8_0, x9_0, x10_0, x11_0] := by
  simp only [fillAV, h0, l0, h1, l1, h2, l2, h3, l3, h4, l4, h5, l5, h6, l6, h7, l7, h8, l8, h9, l9, h10, l10, h11, l11]
  rfl
theorem ACiv_tk0_3 {a0 a1 a2 : AV} {l : List AV} : ((a0 :: a1 :: a2 :: l).drop 0).take 3 = [a0, a1, a2] := rfl
theorem ACiv_Date_42 {τ : Operand → AV} {y0 y1 y2 : Operand} {x0_0 x1_0 x2_0 : AV} (h0 : cellsV (τ y0) = some [x0_0]) (l0 : [x0_0].all leaf = true) (h1 : cellsV (τ y1) = some [x1_0]) (l1 : [x1_0].all leaf = true) (h2 : cellsV (τ y2) = some [x2_0]) (l2 : [x2_0].all leaf = true) : fillAV τ [(0, 1, y0), (1, 1, y1), (2, 1, y2)] [(.v (.int .i64 0)), (.v (.int .i64 0)), (.v (.int .i64 0))] = some [x0_0, x1_0, x2_0] := by
  simp only [fillAV, h0, l0, h1, l1, h2, l2]
  rfl
theorem ACiv_sc0_3 {a0 a1 a2 c0 c1 c2 : AV} {l : List AV} : setCells (a0 :: a1 :: a2 :: l) 0 [c0, c1, c2] = c0 :: c1 :: c2 :: l := rfl
theorem ACiv_Of_8 {τ : Operand → AV} : fillAV τ [] [(.v (.int .i64 0)), (.v (.int .i64 0)), (.v (.int .i64 0))] = some [(.v (.int .i64 0)), (.v (.int .i64 0)), (.v (.int .i64 0))] := rfl
end
/-- civil.within -/
def c88 : AC := (.seq (.reg [⟨(some 6), none, (.mv (.const (.bool false)))⟩]) (.seq (.reg [⟨(some 7), none, (.mv (.tmp 0))⟩, ⟨(some 8), none, (.mv (.tmp 1))⟩, ⟨(some 9), none, (.bin .geq (.tmp 7) (.tmp 8))⟩, ⟨(some 10), none, (.mv (.tmp 9))⟩, ⟨(some 11), (some (10, true)), (.mv (.tmp 0))⟩, ⟨(some 12), (some (10, true)), (.mv (.tmp 2))⟩, ⟨(some 13), (some (10, true)), (.bin .leq (.tmp 11) (.tmp 12))⟩, ⟨(some 14), none, (.pick (.tmp 10) (.tmp 13) (.const (.bool false)))⟩, ⟨(some 6), none, (.mv (.tmp 14))⟩]) .ret))
theorem k88 : compF Try.prog 88 = some ⟨c88, [(.tmp 6)], 15⟩ := by kernel_rfl
theorem i88 {a0 a1 a2 : AV} {h : AH} {R : AE → Prop} (hw : ∀ n, h.length = n → (∀ e ∈ h, e.lt n = true) → AV.ltL n [a0, a1, a2] = true → AV.bdL [a0, a1, a2] → aw Try.prog n c88 (retA [(.tmp 6)] fun x h' => ∃ z, h' = h ++ z ∧ x.lt n = true ∧ R x) [a0, a1, a2, .any, .any, .any, .any, .any, .any, .any, .any, .any, .any, .any, .any] (h ++ [])) : ACalls Try.prog 88 [a0, a1, a2] h fun x h' => h' = h ∧ R x := ACalls.into k88 rfl hw
theorem w88 {a0 a1 a2 : AV} {h : AH} {res : AV} (hw : ∀ n, h.length = n → (∀ e ∈ h, e.lt n = true) → AV.ltL n [a0, a1, a2] = true → AV.bdL [a0, a1, a2] → aw Try.prog n c88 (retA [(.tmp 6)] fun x h' => ∃ z, h' = h ++ z ∧ x.lt n = true ∧ ∃ c, x = .ret c ∧ Wk c res) [a0, a1, a2, .any, .any, .any, .any, .any, .any, .any, .any, .any, .any, .any, .any] (h ++ [])) : ACalls Try.prog 88 [a0, a1, a2] h fun x h' => h' = h ∧ x = .ret res := ACalls.weak (ACalls.into k88 rfl hw)
theorem n88 {a0 a1 a2 : AV} {h : AH} {R : AE → AH → Prop} (hw : ∀ n, h.length = n → (∀ e ∈ h, e.lt n = true) → AV.ltL n [a0, a1, a2] = true → AV.bdL [a0, a1, a2] → aw Try.prog n c88 (retA [(.tmp 6)] R) [a0, a1, a2, .any, .any, .any, .any, .any, .any, .any, .any, .any, .any, .any, .any] (h ++ [])) : ACalls Try.prog 88 [a0, a1, a2] h R := ACalls.intoN k88 rfl hw
theorem j88 {a0 a1 a2 : AV} {h : AH} {R : AE → AH → Prop} (hw : ∀ n, h.length = n → (∀ e ∈ h, e.lt n = true) → AV.ltL n [a0, a1, a2] = true → AV.bdL [a0, a1, a2] → aw Try.prog n c88 (retA [(.tmp 6)] fun x h' => ∃ y z, h' = y ++ z ∧ y.length = n ∧ (∀ e ∈ y, e.lt n = true) ∧ x.lt n = true ∧ R x y) [a0, a1, a2, .any, .any, .any, .any, .any, .any, .any, .any, .any, .any, .any, .any] (h ++ [])) : ACalls Try.prog 88 [a0, a1, a2] h R := ACalls.intoG k88 rfl hw
/-- civil.leap -/
def c101 : AC := (.seq (.reg [⟨(some 2), none, (.mv (.const (.bool false)))⟩]) (.seq (.reg [⟨(some 3), none, (.mv (.tmp 0))⟩, ⟨(some 4), none, (.bin .rem (.tmp 3) (.const (.int .i64 4)))⟩, ⟨(some 5), none, (.bin .eql (.tmp 4) (.const (.int .i64 0)))⟩, ⟨(some 6), none, (.mv (.tmp 5))⟩, ⟨(some 7), (some (6, true)), (.mv (.tmp 0))⟩, ⟨(some 8), (some (6, true)), (.bin .rem (.tmp 7) (.const (.int .i64 100)))⟩, ⟨(some 9), (some (6, true)), (.bin .neq (.tmp 8) (.const (.int .i64 0)))⟩, ⟨(some 10), (some (6, true)), (.mv (.tmp 9))⟩, ⟨(some 11), (some (10, false)), (.mv (.tmp 0))⟩, ⟨(some 12), (some (10, false)), (.bin .rem (.tmp 11) (.const (.int .i64 400)))⟩, ⟨(some 13), (some (10, false)), (.bin .eql (.tmp 12) (.const (.int .i64 0)))⟩, ⟨(some 14), (some (6, true)), (.pick (.tmp 10) (.const (.bool true)) (.tmp 13))⟩, ⟨(some 15), none, (.pick (.tmp 6) (.tmp 14) (.const (.bool false)))⟩, ⟨(some 2), none, (.mv (.tmp 15))⟩]) .ret))
theorem k101 : compF Try.prog 101 = some ⟨c101, [(.tmp 2)], 16⟩ := by kernel_rfl
theorem i101 {a0 : AV} {h : AH} {R : AE → Prop} (hw : ∀ n, h.length = n → (∀ e ∈ h, e.lt n = true) → AV.ltL n [a0] = true → AV.bdL [a0] → aw Try.prog n c101 (retA [(.tmp 2)] fun x h' => ∃ z, h' = h ++ z ∧ x.lt n = true ∧ R x) [a0, .any, .any, .any, .any, .any, .any, .any, .any, .any, .any, .any, .any, .any, .any, .any] (h ++ [])) : ACalls Try.prog 101 [a0] h fun x h' => h' = h ∧ R x := ACalls.into k101 rfl hw
theorem w101 {a0 : AV} {h : AH} {res : AV} (hw : ∀ n, h.length = n → (∀ e ∈ h, e.lt n = true) → AV.ltL n [a0] = true → AV.bdL [a0] → aw Try.prog n c101 (retA [(.tmp 2)] fun x h' => ∃ z, h' = h ++ z ∧ x.lt n = true ∧ ∃ c, x = .ret c ∧ Wk c res) [a0, .any, .any, .any, .any, .any, .any, .any, .any, .any, .any, .any, .any, .any, .any, .any] (h ++ [])) : ACalls Try.prog 101 [a0] h fun x h' => h' = h ∧ x = .ret res := ACalls.weak (ACalls.into k101 rfl hw)
theorem n101 {a0 : AV} {h : AH} {R : AE → AH → Prop} (hw : ∀ n, h.length = n → (∀ e ∈ h, e.lt n = true) → AV.ltL n [a0] = true → AV.bdL [a0] → aw Try.prog n c101 (retA [(.tmp 2)] R) [a0, .any, .any, .any, .any, .any, .any, .any, .any, .any, .any, .any, .any, .any, .any, .any] (h ++ [])) : ACalls Try.prog 101 [a0] h R := ACalls.intoN k101 rfl hw
theorem j101 {a0 : AV} {h : AH} {R : AE → AH → Prop} (hw : ∀ n, h.length = n → (∀ e ∈ h, e.lt n = true) → AV.ltL n [a0] = true → AV.bdL [a0] → aw Try.prog n c101 (retA [(.tmp 2)] fun x h' => ∃ y z, h' = y ++ z ∧ y.length = n ∧ (∀ e ∈ y, e.lt n = true) ∧ x.lt n = true ∧ R x y) [a0, .any, .any, .any, .any, .any, .any, .any, .any, .any, .any, .any, .any, .any, .any, .any] (h ++ [])) : ACalls Try.prog 101 [a0] h R := ACalls.intoG k101 rfl hw
/-- civil.lengths -/
def c100 : AC := (.seq (.reg [⟨(some 0), none, (.mv (.const (.slice none 0 0)))⟩]) (.seq (.reg [⟨(some 1), none, (.lit 3 1 12 [(.v (.int .i64 0)), (.v (.int .i64 0)), (.v (.int .i64 0)), (.v (.int .i64 0)), (.v (.int .i64 0)), (.v (.int .i64 0)), (.v (.int .i64 0)), (.v (.int .i64 0)), (.v (.int .i64 0)), (.v (.int .i64 0)), (.v (.int .i64 0)), (.v (.int .i64 0))] [(0, (1, (.const (.int .i64 31)))), (1, (1, (.const (.int .i64 28)))), (2, (1, (.const (.int .i64 31)))), (3, (1, (.const (.int .i64 30)))), (4, (1, (.const (.int .i64 31)))), (5, (1, (.const (.int .i64 30)))), (6, (1, (.const (.int .i64 31)))), (7, (1, (.const (.int .i64 31)))), (8, (1, (.const (.int .i64 30)))), (9, (1, (.const (.int .i64 31)))), (10, (1, (.const (.int .i64 30)))), (11, (1, (.const (.int .i64 31))))])⟩, ⟨(some 0), none, (.mv (.tmp 1))⟩]) .ret))
theorem k100 : compF Try.prog 100 = some ⟨c100, [(.tmp 0)], 2⟩ := by kernel_rfl
theorem i100 {h : AH} {R : AE → Prop} (hw : ∀ n, h.length = n → (∀ e ∈ h, e.lt n = true) → AV.ltL n [] = true → AV.bdL [] → aw Try.prog n c100 (retA [(.tmp 0)] fun x h' => ∃ z, h' = h ++ z ∧ x.lt n = true ∧ R x) [.any, .any] (h ++ [])) : ACalls Try.prog 100 [] h fun x h' => h' = h ∧ R x := ACalls.into k100 rfl hw
theorem w100 {h : AH} {res : AV} (hw : ∀ n, h.length = n → (∀ e ∈ h, e.lt n = true) → AV.ltL n [] = true → AV.bdL [] → aw Try.prog n c100 (retA [(.tmp 0)] fun x h' => ∃ z, h' = h ++ z ∧ x.lt n = true ∧ ∃ c, x = .ret c ∧ Wk c res) [.any, .any] (h ++ [])) : ACalls Try.prog 100 [] h fun x h' => h' = h ∧ x = .ret res := ACalls.weak (ACalls.into k100 rfl hw)
theorem n100 {h : AH} {R : AE → AH → Prop} (hw : ∀ n, h.length = n → (∀ e ∈ h, e.lt n = true) → AV.ltL n [] = true → AV.bdL [] → aw Try.prog n c100 (retA [(.tmp 0)] R) [.any, .any] (h ++ [])) : ACalls Try.prog 100 [] h R := ACalls.intoN k100 rfl hw
theorem j100 {h : AH} {R : AE → AH → Prop} (hw : ∀ n, h.length = n → (∀ e ∈ h, e.lt n = true) → AV.ltL n [] = true → AV.bdL [] → aw Try.prog n c100 (retA [(.tmp 0)] fun x h' => ∃ y z, h' = y ++ z ∧ y.length = n ∧ (∀ e ∈ y, e.lt n = true) ∧ x.lt n = true ∧ R x y) [.any, .any] (h ++ [])) : ACalls Try.prog 100 [] h R := ACalls.intoG k100 rfl hw
/-- civil.Length -/
def c91 : AC := (.seq (.reg [⟨(some 4), none, (.mv (.const (.int .i64 0)))⟩]) (.seq (.reg [⟨(some 6), none, (.call (.func 100) [])⟩, ⟨(some 7), none, (.mv (.tmp 1))⟩, ⟨(some 8), none, (.bin .sub (.tmp 7) (.const (.int .i64 1)))⟩, ⟨(some 9), none, (.ia 1 (.tmp 6) (.tmp 8))⟩, ⟨(some 10), none, (.load false 1 (.tmp 9))⟩, ⟨(some 5), none, (.mv (.tmp 10))⟩]) (.seq (.seq (.reg [⟨(some 11), none, (.mv (.tmp 1))⟩, ⟨(some 12), none, (.bin .eql (.tmp 11) (.const (.int .i64 2)))⟩, ⟨(some 13), none, (.mv (.tmp 12))⟩, ⟨(some 14), (some (13, true)), (.mv (.tmp 0))⟩, ⟨(some 15), (some (13, true)), (.call (.func 101) [(.tmp 14)])⟩, ⟨(some 16), none, (.pick (.tmp 13) (.tmp 15) (.const (.bool false)))⟩]) (.cond (.tmp 16) (.reg [⟨(some 17), none, (.mv (.tmp 5))⟩, ⟨(some 18), none, (.bin .add (.tmp 17) (.const (.int .i64 1)))⟩, ⟨(some 5), none, (.mv (.tmp 18))⟩]) .skip)) (.seq (.reg [⟨(some 19), none, (.mv (.tmp 5))⟩, ⟨(some 4), none, (.mv (.tmp 19))⟩]) .ret))))
theorem k91 : compF Try.prog 91 = some ⟨c91, [(.tmp 4)], 20⟩ := by kernel_rfl
theorem i91 {a0 a1 : AV} {h : AH} {R : AE → Prop} (hw : ∀ n, h.length = n → (∀ e ∈ h, e.lt n = true) → AV.ltL n [a0, a1] = true → AV.bdL [a0, a1] → aw Try.prog n c91 (retA [(.tmp 4)] fun x h' => ∃ z, h' = h ++ z ∧ x.lt n = true ∧ R x) [a0, a1, .any, .any, .any, .any, .any, .any, .any, .any, .any, .any, .any, .any, .any, .any, .any, .any, .any, .any] (h ++ [])) : ACalls Try.prog 91 [a0, a1] h fun x h' => h' = h ∧ R x := ACalls.into k91 rfl hw
theorem w91 {a0 a1 : AV} {h : AH} {res : AV} (hw : ∀ n, h.length = n → (∀ e ∈ h, e.lt n = true) → AV.ltL n [a0, a1] = true → AV.bdL [a0, a1] → aw Try.prog n c91 (retA [(.tmp 4)] fun x h' => ∃ z, h' = h ++ z ∧ x.lt n = true ∧ ∃ c, x = .ret c ∧ Wk c res) [a0, a1, .any, .any, .any, .any, .any, .any, .any, .any, .any, .any, .any, .any, .any, .any, .any, .any, .any, .any] (h ++ [])) : ACalls Try.prog 91 [a0, a1] h fun x h' => h' = h ∧ x = .ret res := ACalls.weak (ACalls.into k91 rfl hw)
theorem n91 {a0 a1 : AV} {h : AH} {R : AE → AH → Prop} (hw : ∀ n, h.length = n → (∀ e ∈ h, e.lt n = true) → AV.ltL n [a0, a1] = true → AV.bdL [a0, a1] → aw Try.prog n c91 (retA [(.tmp 4)] R) [a0, a1, .any, .any, .any, .any, .any, .any, .any, .any, .any, .any, .any, .any, .any, .any, .any, .any, .any, .any] (h ++ [])) : ACalls Try.prog 91 [a0, a1] h R := ACalls.intoN k91 rfl hw
theorem j91 {a0 a1 : AV} {h : AH} {R : AE → AH → Prop} (hw : ∀ n, h.length = n → (∀ e ∈ h, e.lt n = true) → AV.ltL n [a0, a1] = true → AV.bdL [a0, a1] → aw Try.prog n c91 (retA [(.tmp 4)] fun x h' => ∃ y z, h' = y ++ z ∧ y.length = n ∧ (∀ e ∈ y, e.lt n = true) ∧ x.lt n = true ∧ R x y) [a0, a1, .any, .any, .any, .any, .any, .any, .any, .any, .any, .any, .any, .any, .any, .any, .any, .any, .any, .any] (h ++ [])) : ACalls Try.prog 91 [a0, a1] h R := ACalls.intoG k91 rfl hw
/-- civil.Number -/
def c72 : AC := (.seq (.reg [⟨(some 1), none, (.box 52 3 (.tmp 0))⟩, ⟨(some 2), none, (.mv (.const (.int .i64 0)))⟩]) (.seq (.drw [⟨(some 5), none, (.fa 0 (.tmp 1))⟩, ⟨(some 6), none, (.load false 1 (.tmp 5))⟩, ⟨(some 7), none, (.call (.func 92) [(.tmp 6)])⟩, ⟨(some 8), none, (.call (.func 93) [])⟩, ⟨(some 9), none, (.bin .sub (.tmp 7) (.tmp 8))⟩, ⟨(some 10), none, (.fa 2 (.tmp 1))⟩, ⟨(some 11), none, (.load false 1 (.tmp 10))⟩, ⟨(some 12), none, (.bin .add (.tmp 9) (.tmp 11))⟩, ⟨(some 13), none, (.bin .sub (.tmp 12) (.const (.int .i64 1)))⟩, ⟨(some 3), none, (.mv (.tmp 13))⟩] [] []) (.seq (.seq (.reg [⟨(some 4), none, (.mv (.const (.int .i64 1)))⟩]) (.block 0 (.loop (.seq (.seq (.reg [⟨(some 14), none, (.mv (.tmp 4))⟩, ⟨(some 15), none, (.fa 1 (.tmp 1))⟩, ⟨(some 16), none, (.load false 1 (.tmp 15))⟩, ⟨(some 17), none, (.bin .lss (.tmp 14) (.tmp 16))⟩]) (.cond (.tmp 17) .skip (.exit 0))) (.seq (.block 1 (.reg [⟨(some 20), none, (.mv (.tmp 3))⟩, ⟨(some 21), none, (.fa 0 (.tmp 1))⟩, ⟨(some 22), none, (.load false 1 (.tmp 21))⟩, ⟨(some 23), none, (.mv (.tmp 4))⟩, ⟨(some 24), none, (.call (.func 91) [(.tmp 22), (.tmp 23)])⟩, ⟨(some 25), none, (.bin .add (.tmp 20) (.tmp 24))⟩, ⟨(some 3), none, (.mv (.tmp 25))⟩])) (.reg [⟨(some 18), none, (.mv (.tmp 4))⟩, ⟨(some 19), none, (.bin .add (.tmp 18) (.const (.int .i64 1)))⟩, ⟨(some 4), none, (.mv (.tmp 19))⟩])))))) (.seq (.reg [⟨(some 26), none, (.mv (.tmp 3))⟩, ⟨(some 2), none, (.mv (.tmp 26))⟩]) .ret))))
theorem k72 : compF Try.prog 72 = some ⟨c72, [(.tmp 2)], 27⟩ := by kernel_rfl
theorem i72 {a0 : AV} {h : AH} {R : AE → Prop} (hw : ∀ n, h.length = n → (∀ e ∈ h, e.lt n = true) → AV.ltL n [a0] = true → AV.bdL [a0] → aw Try.prog n c72 (retA [(.tmp 2)] fun x h' => ∃ z, h' = h ++ z ∧ x.lt n = true ∧ R x) [a0, .any, .any, .any, .any, .any, .any, .any, .any, .any, .any, .any, .any, .any, .any, .any, .any, .any, .any, .any, .any, .any, .any, .any, .any, .any, .any] (h ++ [])) : ACalls Try.prog 72 [a0] h fun x h' => h' = h ∧ R x := ACalls.into k72 rfl hw
theorem w72 {a0 : AV} {h : AH} {res : AV} (hw : ∀ n, h.length = n → (∀ e ∈ h, e.lt n = true) → AV.ltL n [a0] = true → AV.bdL [a0] → aw Try.prog n c72 (retA [(.tmp 2)] fun x h' => ∃ z, h' = h ++ z ∧ x.lt n = true ∧ ∃ c, x = .ret c ∧ Wk c res) [a0, .any, .any, .any, .any, .any, .any, .any, .any, .any, .any, .any, .any, .any, .any, .any, .any, .any, .any, .any, .any, .any, .any, .any, .any, .any, .any] (h ++ [])) : ACalls Try.prog 72 [a0] h fun x h' => h' = h ∧ x = .ret res := ACalls.weak (ACalls.into k72 rfl hw)
theorem n72 {a0 : AV} {h : AH} {R : AE → AH → Prop} (hw : ∀ n, h.length = n → (∀ e ∈ h, e.lt n = true) → AV.ltL n [a0] = true → AV.bdL [a0] → aw Try.prog n c72 (retA [(.tmp 2)] R) [a0, .any, .any, .any, .any, .any, .any, .any, .any, .any, .any, .any, .any, .any, .any, .any, .any, .any, .any, .any, .any, .any, .any, .any, .any, .any, .any] (h ++ [])) : ACalls Try.prog 72 [a0] h R := ACalls.intoN k72 rfl hw
theorem j72 {a0 : AV} {h : AH} {R : AE → AH → Prop} (hw : ∀ n, h.length = n → (∀ e ∈ h, e.lt n = true) → AV.ltL n [a0] = true → AV.bdL [a0] → aw Try.prog n c72 (retA [(.tmp 2)] fun x h' => ∃ y z, h' = y ++ z ∧ y.length = n ∧ (∀ e ∈ y, e.lt n = true) ∧ x.lt n = true ∧ R x y) [a0, .any, .any, .any, .any, .any, .any, .any, .any, .any, .any, .any, .any, .any, .any, .any, .any, .any, .any, .any, .any, .any, .any, .any, .any, .any, .any] (h ++ [])) : ACalls Try.prog 72 [a0] h R := ACalls.intoG k72 rfl hw
/-- civil.Is -/
def c71 : AC := (.seq (.reg [⟨(some 1), none, (.box 52 3 (.tmp 0))⟩, ⟨(some 2), none, (.mv (.const (.bool false)))⟩]) (.seq (.drw [⟨(some 3), none, (.fa 0 (.tmp 1))⟩, ⟨(some 4), none, (.load false 1 (.tmp 3))⟩, ⟨(some 5), none, (.call (.func 88) [(.tmp 4), (.const (.int .i64 1)), (.const (.int .i64 9999))])⟩, ⟨(some 6), none, (.mv (.tmp 5))⟩, ⟨(some 7), (some (6, true)), (.fa 1 (.tmp 1))⟩, ⟨(some 8), (some (6, true)), (.load false 1 (.tmp 7))⟩, ⟨(some 9), (some (6, true)), (.call (.func 88) [(.tmp 8), (.const (.int .i64 1)), (.const (.int .i64 12))])⟩, ⟨(some 10), none, (.pick (.tmp 6) (.tmp 9) (.const (.bool false)))⟩, ⟨(some 11), none, (.mv (.tmp 10))⟩, ⟨(some 12), (some (11, true)), (.fa 2 (.tmp 1))⟩, ⟨(some 13), (some (11, true)), (.load false 1 (.tmp 12))⟩, ⟨(some 14), (some (11, true)), (.fa 0 (.tmp 1))⟩, ⟨(some 15), (some (11, true)), (.load false 1 (.tmp 14))⟩, ⟨(some 16), (some (11, true)), (.fa 1 (.tmp 1))⟩, ⟨(some 17), (some (11, true)), (.load false 1 (.tmp 16))⟩, ⟨(some 18), (some (11, true)), (.call (.func 91) [(.tmp 15), (.tmp 17)])⟩, ⟨(some 19), (some (11, true)), (.call (.func 88) [(.tmp 13), (.const (.int .i64 1)), (.tmp 18)])⟩, ⟨(some 20), none, (.pick (.tmp 11) (.tmp 19) (.const (.bool false)))⟩, ⟨(some 2), none, (.mv (.tmp 20))⟩] [] []) .ret))
theorem k71 : compF Try.prog 71 = some ⟨c71, [(.tmp 2)], 21⟩ := by kernel_rfl
theorem i71 {a0 : AV} {h : AH} {R : AE → Prop} (hw : ∀ n, h.length = n → (∀ e ∈ h, e.lt n = true) → AV.ltL n [a0] = true → AV.bdL [a0] → aw Try.prog n c71 (retA [(.tmp 2)] fun x h' => ∃ z, h' = h ++ z ∧ x.lt n = true ∧ R x) [a0, .any, .any, .any, .any, .any, .any, .any, .any, .any, .any, .any, .any, .any, .any, .any, .any, .any, .any, .any, .any] (h ++ [])) : ACalls Try.prog 71 [a0] h fun x h' => h' = h ∧ R x := ACalls.into k71 rfl hw
theorem w71 {a0 : AV} {h : AH} {res : AV} (hw : ∀ n, h.length = n → (∀ e ∈ h, e.lt n = true) → AV.ltL n [a0] = true → AV.bdL [a0] → aw Try.prog n c71 (retA [(.tmp 2)] fun x h' => ∃ z, h' = h ++ z ∧ x.lt n = true ∧ ∃ c, x = .ret c ∧ Wk c res) [a0, .any, .any, .any, .any, .any, .any, .any, .any, .any, .any, .any, .any, .any, .any, .any, .any, .any, .any, .any, .any] (h ++ [])) : ACalls Try.prog 71 [a0] h fun x h' => h' = h ∧ x = .ret res := ACalls.weak (ACalls.into k71 rfl hw)
theorem n71 {a0 : AV} {h : AH} {R : AE → AH → Prop} (hw : ∀ n, h.length = n → (∀ e ∈ h, e.lt n = true) → AV.ltL n [a0] = true → AV.bdL [a0] → aw Try.prog n c71 (retA [(.tmp 2)] R) [a0, .any, .any, .any, .any, .any, .any, .any, .any, .any, .any, .any, .any, .any, .any, .any, .any, .any, .any, .any, .any] (h ++ [])) : ACalls Try.prog 71 [a0] h R := ACalls.intoN k71 rfl hw
theorem j71 {a0 : AV} {h : AH} {R : AE → AH → Prop} (hw : ∀ n, h.length = n → (∀ e ∈ h, e.lt n = true) → AV.ltL n [a0] = true → AV.bdL [a0] → aw Try.prog n c71 (retA [(.tmp 2)] fun x h' => ∃ y z, h' = y ++ z ∧ y.length = n ∧ (∀ e ∈ y, e.lt n = true) ∧ x.lt n = true ∧ R x y) [a0, .any, .any, .any, .any, .any, .any, .any, .any, .any, .any, .any, .any, .any, .any, .any, .any, .any, .any, .any, .any] (h ++ [])) : ACalls Try.prog 71 [a0] h R := ACalls.intoG k71 rfl hw
/-- civil.Days -/
def c51 : AC := (.seq (.reg [⟨(some 1), none, (.box 52 3 (.tmp 0))⟩, ⟨(some 2), none, (.mv (.const (.int .i64 0)))⟩, ⟨(some 3), none, (.mv (.const (.int .i64 0)))⟩]) (.seq (.seq (.reg [⟨(some 4), none, (.load true 3 (.tmp 1))⟩, ⟨(some 5), none, (.call (.func 71) [(.tmp 4)])⟩, ⟨(some 6), none, (.un .not (.tmp 5))⟩]) (.cond (.tmp 6) (.seq (.reg [⟨(some 2), none, (.mv (.const (.int .i64 0)))⟩, ⟨(some 3), none, (.mv (.const (.int .i64 3)))⟩]) .ret) .skip)) (.seq (.reg [⟨(some 7), none, (.load true 3 (.tmp 1))⟩, ⟨(some 8), none, (.call (.func 72) [(.tmp 7)])⟩, ⟨(some 2), none, (.mv (.tmp 8))⟩, ⟨(some 3), none, (.mv (.const (.int .i64 0)))⟩]) .ret)))
theorem k51 : compF Try.prog 51 = some ⟨c51, [(.tmp 2), (.tmp 3)], 9⟩ := by kernel_rfl
theorem i51 {a0 : AV} {h : AH} {R : AE → Prop} (hw : ∀ n, h.length = n → (∀ e ∈ h, e.lt n = true) → AV.ltL n [a0] = true → AV.bdL [a0] → aw Try.prog n c51 (retA [(.tmp 2), (.tmp 3)] fun x h' => ∃ z, h' = h ++ z ∧ x.lt n = true ∧ R x) [a0, .any, .any, .any, .any, .any, .any, .any, .any] (h ++ [])) : ACalls Try.prog 51 [a0] h fun x h' => h' = h ∧ R x := ACalls.into k51 rfl hw
theorem w51 {a0 : AV} {h : AH} {res : AV} (hw : ∀ n, h.length = n → (∀ e ∈ h, e.lt n = true) → AV.ltL n [a0] = true → AV.bdL [a0] → aw Try.prog n c51 (retA [(.tmp 2), (.tmp 3)] fun x h' => ∃ z, h' = h ++ z ∧ x.lt n = true ∧ ∃ c, x = .ret c ∧ Wk c res) [a0, .any, .any, .any, .any, .any, .any, .any, .any] (h ++ [])) : ACalls Try.prog 51 [a0] h fun x h' => h' = h ∧ x = .ret res := ACalls.weak (ACalls.into k51 rfl hw)
theorem n51 {a0 : AV} {h : AH} {R : AE → AH → Prop} (hw : ∀ n, h.length = n → (∀ e ∈ h, e.lt n = true) → AV.ltL n [a0] = true → AV.bdL [a0] → aw Try.prog n c51 (retA [(.tmp 2), (.tmp 3)] R) [a0, .any, .any, .any, .any, .any, .any, .any, .any] (h ++ [])) : ACalls Try.prog 51 [a0] h R := ACalls.intoN k51 rfl hw
theorem j51 {a0 : AV} {h : AH} {R : AE → AH → Prop} (hw : ∀ n, h.length = n → (∀ e ∈ h, e.lt n = true) → AV.ltL n [a0] = true → AV.bdL [a0] → aw Try.prog n c51 (retA [(.tmp 2), (.tmp 3)] fun x h' => ∃ y z, h' = y ++ z ∧ y.length = n ∧ (∀ e ∈ y, e.lt n = true) ∧ x.lt n = true ∧ R x y) [a0, .any, .any, .any, .any, .any, .any, .any, .any] (h ++ [])) : ACalls Try.prog 51 [a0] h R := ACalls.intoG k51 rfl hw
/-- civil.Date -/
def c90 : AC := (.seq (.reg [⟨(some 2), none, (.new 52 3 [(.v (.int .i64 0)), (.v (.int .i64 0)), (.v (.int .i64 0))])⟩]) (.seq (.reg [⟨(some 6), none, (.mv (.tmp 0))⟩, ⟨(some 7), none, (.call (.func 93) [])⟩, ⟨(some 8), none, (.bin .add (.tmp 6) (.tmp 7))⟩, ⟨(some 3), none, (.mv (.tmp 8))⟩]) (.seq (.reg [⟨(some 9), none, (.mv (.tmp 3))⟩, ⟨(some 10), none, (.bin .quo (.tmp 9) (.const (.int .i64 366)))⟩, ⟨(some 11), none, (.bin .add (.tmp 10) (.const (.int .i64 1)))⟩, ⟨(some 4), none, (.mv (.tmp 11))⟩]) (.seq (.block 0 (.loop (.seq (.seq (.reg [⟨(some 12), none, (.mv (.tmp 4))⟩, ⟨(some 13), none, (.bin .add (.tmp 12) (.const (.int .i64 1)))⟩, ⟨(some 14), none, (.call (.func 92) [(.tmp 13)])⟩, ⟨(some 15), none, (.mv (.tmp 3))⟩, ⟨(some 16), none, (.bin .leq (.tmp 14) (.tmp 15))⟩]) (.cond (.tmp 16) .skip (.exit 0))) (.block 1 (.reg [⟨(some 17), none, (.mv (.tmp 4))⟩, ⟨(some 18), none, (.bin .add (.tmp 17) (.const (.int .i64 1)))⟩, ⟨(some 4), none, (.mv (.tmp 18))⟩]))))) (.seq (.reg [⟨(some 19), none, (.mv (.tmp 3))⟩, ⟨(some 20), none, (.mv (.tmp 4))⟩, ⟨(some 21), none, (.call (.func 92) [(.tmp 20)])⟩, ⟨(some 22), none, (.bin .sub (.tmp 19) (.tmp 21))⟩, ⟨(some 3), none, (.mv (.tmp 22))⟩]) (.seq (.reg [⟨(some 5), none, (.mv (.const (.int .i64 1)))⟩]) (.seq (.block 2 (.loop (.seq (.seq (.reg [⟨(some 23), none, (.mv (.tmp 3))⟩, ⟨(some 24), none, (.mv (.tmp 4))⟩, ⟨(some 25), none, (.mv (.tmp 5))⟩, ⟨(some 26), none, (.call (.func 91) [(.tmp 24), (.tmp 25)])⟩, ⟨(some 27), none, (.bin .geq (.tmp 23) (.tmp 26))⟩]) (.cond (.tmp 27) .skip (.exit 2))) (.block 3 (.seq (.reg [⟨(some 28), none, (.mv (.tmp 3))⟩, ⟨(some 29), none, (.mv (.tmp 4))⟩, ⟨(some 30), none, (.mv (.tmp 5))⟩, ⟨(some 31), none, (.call (.func 91) [(.tmp 29), (.tmp 30)])⟩, ⟨(some 32), none, (.bin .sub (.tmp 28) (.tmp 31))⟩, ⟨(some 3), none, (.mv (.tmp 32))⟩]) (.reg [⟨(some 33), none, (.mv (.tmp 5))⟩, ⟨(some 34), none, (.bin .add (.tmp 33) (.const (.int .i64 1)))⟩, ⟨(some 5), none, (.mv (.tmp 34))⟩])))))) (.seq (.reg [⟨(some 35), none, (.mv (.tmp 4))⟩, ⟨(some 36), none, (.mv (.tmp 5))⟩, ⟨(some 37), none, (.mv (.tmp 3))⟩, ⟨(some 38), none, (.bin .add (.tmp 37) (.const (.int .i64 1)))⟩, ⟨(some 39), none, (.build [(.v (.int .i64 0)), (.v (.int .i64 0)), (.v (.int .i64 0))] [(0, (1, (.tmp 35))), (1, (1, (.tmp 36))), (2, (1, (.tmp 38)))])⟩, ⟨none, none, (.store 3 (.tmp 2) (.tmp 39))⟩]) .ret))))))))
theorem k90 : compF Try.prog 90 = some ⟨c90, [(.cell 2 true 3)], 40⟩ := by kernel_rfl
theorem i90 {a0 : AV} {h : AH} {R : AE → Prop} (hw : ∀ n, h.length = n → (∀ e ∈ h, e.lt n = true) → AV.ltL n [a0] = true → AV.bdL [a0] → aw Try.prog n c90 (retA [(.cell 2 true 3)] fun x h' => ∃ z, h' = h ++ z ∧ x.lt n = true ∧ R x) [a0, .any, .any, .any, .any, .any, .any, .any, .any, .any, .any, .any, .any, .any, .any, .any, .any, .any, .any, .any, .any, .any, .any, .any, .any, .any, .any, .any, .any, .any, .any, .any, .any, .any, .any, .any, .any, .any, .any, .any] (h ++ [])) : ACalls Try.prog 90 [a0] h fun x h' => h' = h ∧ R x := ACalls.into k90 rfl hw
theorem w90 {a0 : AV} {h : AH} {res : AV} (hw : ∀ n, h.length = n → (∀ e ∈ h, e.lt n = true) → AV.ltL n [a0] = true → AV.bdL [a0] → aw Try.prog n c90 (retA [(.cell 2 true 3)] fun x h' => ∃ z, h' = h ++ z ∧ x.lt n = true ∧ ∃ c, x = .ret c ∧ Wk c res) [a0, .any, .any, .any, .any, .any, .any, .any, .any, .any, .any, .any, .any, .any, .any, .any, .any, .any, .any, .any, .any, .any, .any, .any, .any, .any, .any, .any, .any, .any, .any, .any, .any, .any, .any, .any, .any, .any, .any, .any] (h ++ [])) : ACalls Try.prog 90 [a0] h fun x h' => h' = h ∧ x = .ret res := ACalls.weak (ACalls.into k90 rfl hw)
theorem n90 {a0 : AV} {h : AH} {R : AE → AH → Prop} (hw : ∀ n, h.length = n → (∀ e ∈ h, e.lt n = true) → AV.ltL n [a0] = true → AV.bdL [a0] → aw Try.prog n c90 (retA [(.cell 2 true 3)] R) [a0, .any, .any, .any, .any, .any, .any, .any, .any, .any, .any, .any, .any, .any, .any, .any, .any, .any, .any, .any, .any, .any, .any, .any, .any, .any, .any, .any, .any, .any, .any, .any, .any, .any, .any, .any, .any, .any, .any, .any] (h ++ [])) : ACalls Try.prog 90 [a0] h R := ACalls.intoN k90 rfl hw
theorem j90 {a0 : AV} {h : AH} {R : AE → AH → Prop} (hw : ∀ n, h.length = n → (∀ e ∈ h, e.lt n = true) → AV.ltL n [a0] = true → AV.bdL [a0] → aw Try.prog n c90 (retA [(.cell 2 true 3)] fun x h' => ∃ y z, h' = y ++ z ∧ y.length = n ∧ (∀ e ∈ y, e.lt n = true) ∧ x.lt n = true ∧ R x y) [a0, .any, .any, .any, .any, .any, .any, .any, .any, .any, .any, .any, .any, .any, .any, .any, .any, .any, .any, .any, .any, .any, .any, .any, .any, .any, .any, .any, .any, .any, .any, .any, .any, .any, .any, .any, .any, .any, .any, .any] (h ++ [])) : ACalls Try.prog 90 [a0] h R := ACalls.intoG k90 rfl hw
/-- civil.Of -/
def c70 : AC := (.seq (.reg [⟨(some 2), none, (.new 52 3 [(.v (.int .i64 0)), (.v (.int .i64 0)), (.v (.int .i64 0))])⟩, ⟨(some 3), none, (.mv (.const (.int .i64 0)))⟩]) (.seq (.seq (.reg [⟨(some 4), none, (.mv (.tmp 0))⟩, ⟨(some 5), none, (.call (.func 78) [])⟩, ⟨(some 6), none, (.call (.func 89) [])⟩, ⟨(some 7), none, (.call (.func 88) [(.tmp 4), (.tmp 5), (.tmp 6)])⟩, ⟨(some 8), none, (.un .not (.tmp 7))⟩]) (.cond (.tmp 8) (.seq (.reg [⟨(some 9), none, (.build [(.v (.int .i64 0)), (.v (.int .i64 0)), (.v (.int .i64 0))] [])⟩, ⟨none, none, (.store 3 (.tmp 2) (.tmp 9))⟩, ⟨(some 3), none, (.mv (.const (.int .i64 3)))⟩]) .ret) .skip)) (.seq (.reg [⟨(some 10), none, (.mv (.tmp 0))⟩, ⟨(some 11), none, (.call (.func 90) [(.tmp 10)])⟩, ⟨none, none, (.store 3 (.tmp 2) (.tmp 11))⟩, ⟨(some 3), none, (.mv (.const (.int .i64 0)))⟩]) .ret)))
theorem k70 : compF Try.prog 70 = some ⟨c70, [(.cell 2 true 3), (.tmp 3)], 12⟩ := by kernel_rfl
theorem i70 {a0 : AV} {h : AH} {R : AE → Prop} (hw : ∀ n, h.length = n → (∀ e ∈ h, e.lt n = true) → AV.ltL n [a0] = true → AV.bdL [a0] → aw Try.prog n c70 (retA [(.cell 2 true 3), (.tmp 3)] fun x h' => ∃ z, h' = h ++ z ∧ x.lt n = true ∧ R x) [a0, .any, .any, .any, .any, .any, .any, .any, .any, .any, .any, .any] (h ++ [])) : ACalls Try.prog 70 [a0] h fun x h' => h' = h ∧ R x := ACalls.into k70 rfl hw
theorem w70 {a0 : AV} {h : AH} {res : AV} (hw : ∀ n, h.length = n → (∀ e ∈ h, e.lt n = true) → AV.ltL n [a0] = true → AV.bdL [a0] → aw Try.prog n c70 (retA [(.cell 2 true 3), (.tmp 3)] fun x h' => ∃ z, h' = h ++ z ∧ x.lt n = true ∧ ∃ c, x = .ret c ∧ Wk c res) [a0, .any, .any, .any, .any, .any, .any, .any, .any, .any, .any, .any] (h ++ [])) : ACalls Try.prog 70 [a0] h fun x h' => h' = h ∧ x = .ret res := ACalls.weak (ACalls.into k70 rfl hw)
theorem n70 {a0 : AV} {h : AH} {R : AE → AH → Prop} (hw : ∀ n, h.length = n → (∀ e ∈ h, e.lt n = true) → AV.ltL n [a0] = true → AV.bdL [a0] → aw Try.prog n c70 (retA [(.cell 2 true 3), (.tmp 3)] R) [a0, .any, .any, .any, .any, .any, .any, .any, .any, .any, .any, .any] (h ++ [])) : ACalls Try.prog 70 [a0] h R := ACalls.intoN k70 rfl hw
theorem j70 {a0 : AV} {h : AH} {R : AE → AH → Prop} (hw : ∀ n, h.length = n → (∀ e ∈ h, e.lt n = true) → AV.ltL n [a0] = true → AV.bdL [a0] → aw Try.prog n c70 (retA [(.cell 2 true 3), (.tmp 3)] fun x h' => ∃ y z, h' = y ++ z ∧ y.length = n ∧ (∀ e ∈ y, e.lt n = true) ∧ x.lt n = true ∧ R x y) [a0, .any, .any, .any, .any, .any, .any, .any, .any, .any, .any, .any] (h ++ [])) : ACalls Try.prog 70 [a0] h R := ACalls.intoG k70 rfl hw
abbrev nmC (n : Int) : List AV := [iv n]
theorem nm_len1 : ∀ x, (nmC x).length = 1 := fun _ => rfl
theorem nm_leaf (l : List Int) : (rows nmC l).all leaf = true := rows_leaf (fun _ => rfl) l
theorem nm_lt {n : Nat} (l : List Int) : AV.ltL n (rows nmC l) = true := rows_lt (fun _ _ => rfl) l
abbrev dateA (p : Int × Int × Int) : AV := .agg [iv p.1, iv p.2.1, iv p.2.2]
def lens : List Int := [31, 28, 31, 30, 31, 30, 31, 31, 30, 31, 30, 31]
theorem cwithin_a {n a b : Int} {h : AH} : ACalls Try.prog 88 [iv n, iv a, iv b] h fun x h' => h' = h ∧ x = .ret (bv (wi n a b)) := by
  refine i88 ?_
  intro N hn hlt hlA hbd
  try simp only [AV.bdL, AV.bd, and_true, true_and] at hbd
  refine w_seq ?_
  refine w_reg ?_
  refine s_val rfl (v_mv lkb) pt6 ?_
  refine s_nil ?_
  refine n_seq ?_
  refine w_seq ?_
  refine w_reg ?_
  refine s_val rfl (v_mv lk0) pt7 ?_
  refine s_val rfl (v_mv lk1) pt8 ?_
  refine s_val rfl (v_geq lk7 lk8) pt9 ?_
  refine s_val rfl (v_mv lk9) pt10 ?_
  first | refine s_splitP gt10 pt10 pt10 (fun hg10 => ?_) (fun hg10 => ?_) | refine s_splitB gt10 pt10 pt10 (fun hg10 => ?_) (fun hg10 => ?_)
  · skip
    refine s_do gt10 ?_
    refine s_val rfl (v_mv lk0) pt11 ?_
    refine s_do gt10 ?_
    refine s_val rfl (v_mv lk2) pt12 ?_
    refine s_do gt10 ?_
    refine s_val rfl (v_leq lk11 lk12) pt13 ?_
    refine s_val rfl (v_pickT lk10 lk13) pt14 ?_
    refine s_val rfl (v_mv lk14) pt6 ?_
    refine s_nil ?_
    refine n_seq ?_
    refine w_rets ?_
    refine w_ret (rs1 (rr_t gt6)) ?_
    refine rt (by first | rfl | (simp only [AV.lt, AV.ltL, Ent.lt, List.all_cons, List.all_nil, Bool.and_true, Bool.and_self, decide_true, nm_lt]; done) | (simp [AV.lt, AV.ltL, Ent.lt, nm_lt, *]; done) | (simp [AV.lt, AV.ltL, Ent.lt, nm_lt, *]; omega)) ?_
    refine bvx ?_; unfold wi; rw [Bool.eq_iff_iff]; simp; omega
  · skip
    refine s_no gt10 pt11 ?_
    refine s_no gt10 pt12 ?_
    refine s_no gt10 pt13 ?_
    refine s_val rfl (v_pickF lk10 lkb) pt14 ?_
    refine s_val rfl (v_mv lk14) pt6 ?_
    refine s_nil ?_
    refine n_seq ?_
    refine w_rets ?_
    refine w_ret (rs1 (rr_t gt6)) ?_
    refine rt (by first | rfl | (simp only [AV.lt, AV.ltL, Ent.lt, List.all_cons, List.all_nil, Bool.and_true, Bool.and_self, decide_true, nm_lt]; done) | (simp [AV.lt, AV.ltL, Ent.lt, nm_lt, *]; done) | (simp [AV.lt, AV.ltL, Ent.lt, nm_lt, *]; omega)) ?_
    refine bvx ?_; unfold wi; rw [Bool.eq_iff_iff]; simp; omega
theorem leap_a {y : Int} {h : AH} (h0 : 0 ≤ y) (h1 : y ≤ 1000000) : ACalls Try.prog 101 [iv y] h fun x h' => h' = h ∧ x = .ret (bv (leapB y)) := by
  refine i101 ?_
  intro N hn hlt hlA hbd
  try simp only [AV.bdL, AV.bd, and_true, true_and] at hbd
  refine w_seq ?_
  refine w_reg ?_
  refine s_val rfl (v_mv lkb) pt2 ?_
  refine s_nil ?_
  refine n_seq ?_
  refine w_seq ?_
  refine w_reg ?_
  refine s_val rfl (v_mv lk0) pt3 ?_
  refine s_val rfl (v_rem lk3 lki (by omega) (by omega)) pt4 ?_
  refine s_val rfl (v_eql lk4 lki) pt5 ?_
  refine s_val rfl (v_mv lk5) pt6 ?_
  first | refine s_splitP gt6 pt6 pt6 (fun hg6 => ?_) (fun hg6 => ?_) | refine s_splitB gt6 pt6 pt6 (fun hg6 => ?_) (fun hg6 => ?_)
  · skip
    refine s_do gt6 ?_
    refine s_val rfl (v_mv lk0) pt7 ?_
    refine s_do gt6 ?_
    refine s_val rfl (v_rem lk7 lki (by omega) (by omega)) pt8 ?_
    refine s_do gt6 ?_
    refine s_val rfl (v_neq lk8 lki) pt9 ?_
    refine s_do gt6 ?_
    refine s_val rfl (v_mv lk9) pt10 ?_
    first | refine s_splitP gt10 pt10 pt10 (fun hg10 => ?_) (fun hg10 => ?_) | refine s_splitB gt10 pt10 pt10 (fun hg10 => ?_) (fun hg10 => ?_)
    · skip
      refine s_no gt10 pt11 ?_
      refine s_no gt10 pt12 ?_
      refine s_no gt10 pt13 ?_
      refine s_do gt6 ?_
      refine s_val rfl (v_pickT lk10 lkb) pt14 ?_
      refine s_val rfl (v_pickT lk6 lk14) pt15 ?_
      refine s_val rfl (v_mv lk15) pt2 ?_
      refine s_nil ?_
      refine n_seq ?_
      refine w_rets ?_
      refine w_ret (rs1 (rr_t gt2)) ?_
      refine rt (by first | rfl | (simp only [AV.lt, AV.ltL, Ent.lt, List.all_cons, List.all_nil, Bool.and_true, Bool.and_self, decide_true, nm_lt]; done) | (simp [AV.lt, AV.ltL, Ent.lt, nm_lt, *]; done) | (simp [AV.lt, AV.ltL, Ent.lt, nm_lt, *]; omega)) ?_
      refine bvx ?_; unfold leapB; simp_all <;> rfl
    · skip
      refine s_do gt10 ?_
      refine s_val rfl (v_mv lk0) pt11 ?_
      refine s_do gt10 ?_
      refine s_val rfl (v_rem lk11 lki (by omega) (by omega)) pt12 ?_
      refine s_do gt10 ?_
      refine s_val rfl (v_eql lk12 lki) pt13 ?_
      refine s_do gt6 ?_
      refine s_val rfl (v_pickF lk10 lk13) pt14 ?_
      refine s_val rfl (v_pickT lk6 lk14) pt15 ?_
      refine s_val rfl (v_mv lk15) pt2 ?_
      refine s_nil ?_
      refine n_seq ?_
      refine w_rets ?_
      refine w_ret (rs1 (rr_t gt2)) ?_
      refine rt (by first | rfl | (simp only [AV.lt, AV.ltL, Ent.lt, List.all_cons, List.all_nil, Bool.and_true, Bool.and_self, decide_true, nm_lt]; done) | (simp [AV.lt, AV.ltL, Ent.lt, nm_lt, *]; done) | (simp [AV.lt, AV.ltL, Ent.lt, nm_lt, *]; omega)) ?_
      refine bvx ?_; unfold leapB; simp_all <;> rfl
  · skip
    refine s_no gt6 pt7 ?_
    refine s_no gt6 pt8 ?_
    refine s_no gt6 pt9 ?_
    refine s_no gt6 pt10 ?_
    refine s_nu gt10 pt11 ?_
    refine s_nu gt10 pt12 ?_
    refine s_nu gt10 pt13 ?_
    refine s_no gt6 pt14 ?_
    refine s_val rfl (v_pickF lk6 lkb) pt15 ?_
    refine s_val rfl (v_mv lk15) pt2 ?_
    refine s_nil ?_
    refine n_seq ?_
    refine w_rets ?_
    refine w_ret (rs1 (rr_t gt2)) ?_
    refine rt (by first | rfl | (simp only [AV.lt, AV.ltL, Ent.lt, List.all_cons, List.all_nil, Bool.and_true, Bool.and_self, decide_true, nm_lt]; done) | (simp [AV.lt, AV.ltL, Ent.lt, nm_lt, *]; done) | (simp [AV.lt, AV.ltL, Ent.lt, nm_lt, *]; omega)) ?_
    refine bvx ?_; unfold leapB; simp_all <;> rfl
theorem lengths_a {h : AH} : ACalls Try.prog 100 [] h fun x h' => h' = h ∧ x = .ret (.sl 12 1 false (rows nmC lens)) := by
  refine i100 ?_
  intro N hn hlt hlA hbd
  try simp only [AV.bdL, AV.bd, and_true, true_and] at hbd
  refine w_seq ?_
  refine w_reg ?_
  refine s_val rfl (v_mv lkn) pt0 ?_
  refine s_nil ?_
  refine n_seq ?_
  refine w_seq ?_
  refine w_reg ?_
  refine s_eff rfl rfl (e_lit (ACiv_lengths_2 (cvl lki rfl) rfl (cvl lki rfl) rfl (cvl lki rfl) rfl (cvl lki rfl) rfl (cvl lki rfl) rfl (cvl lki rfl) rfl (cvl lki rfl) rfl (cvl lki rfl) rfl (cvl lki rfl) rfl (cvl lki rfl) rfl (cvl lki rfl) rfl (cvl lki rfl) rfl) (hl0 hn) ha0) pt1 ?_
  refine s_val rfl (v_mv lk1) pt0 ?_
  refine s_nil ?_
  skip
  refine n_seqw (ALe.iceR (hga hn rfl) gt0 rfl (Nat.le_of_ble_eq_true rfl) pt0 (hs0 hn)) ?_
  refine w_rets ?_
  refine w_ret (rs1 (rr_t gt0)) ?_
  refine rt (by first | rfl | (simp only [AV.lt, AV.ltL, Ent.lt, List.all_cons, List.all_nil, Bool.and_true, Bool.and_self, decide_true, nm_lt]; done) | (simp [AV.lt, AV.ltL, Ent.lt, nm_lt, *]; done) | (simp [AV.lt, AV.ltL, Ent.lt, nm_lt, *]; omega)) ?_
  rfl
theorem mlen_lens {y m : Int} (h1 : 1 ≤ m) (h2 : m ≤ 12) (hk : (m - 1).toNat < lens.length) : mlen y m = lens[(m - 1).toNat] + (if m = 2 then lp y else 0) := by
  have hm : m = 1 ∨ m = 2 ∨ m = 3 ∨ m = 4 ∨ m = 5 ∨ m = 6 ∨ m = 7 ∨ m = 8 ∨ m = 9 ∨ m = 10 ∨ m = 11 ∨ m = 12 := by omega
  rcases hm with rfl | rfl | rfl | rfl | rfl | rfl | rfl | rfl | rfl | rfl | rfl | rfl <;> rfl
theorem lens_bd {k : Nat} (hk : k < lens.length) : 28 ≤ lens[k] ∧ lens[k] ≤ 31 := by
  have : ∀ x ∈ lens, 28 ≤ x ∧ x ≤ 31 := by decide
  exact this _ (List.getElem_mem hk)
theorem length_a {y m : Int} {h : AH} (h0 : 0 ≤ y) (hy : y ≤ 1000000) (h1 : 1 ≤ m) (h2 : m ≤ 12) : ACalls Try.prog 91 [iv y, iv m] h fun x h' => h' = h ∧ x = .ret (iv (mlen y m)) := by
  have hk : (m - 1).toNat < lens.length := by show _ < 12; omega
  have he := mlen_lens (y := y) h1 h2 hk
  have hb := lens_bd hk
  refine i91 ?_
  intro N hn hlt hlA hbd
  try simp only [AV.bdL, AV.bd, and_true, true_and] at hbd
  refine w_seq ?_
  refine w_reg ?_
  refine s_val rfl (v_mv lki) pt4 ?_
  refine s_nil ?_
  refine n_seq ?_
  refine w_seq ?_
  refine w_reg ?_
  refine s_callp mp0 (lengths_a) pt6 ?_
  refine s_val rfl (v_mv lk1) pt7 ?_
  refine s_val rfl (v_sub lk7 lki (by omega) (by omega)) pt8 ?_
  refine s_val rfl (v_iaR (l := lens) (k := (m - 1).toNat) lk6 lk8 nm_len1 (Nat.le_of_ble_eq_true rfl) (by omega) hk rfl rfl) pt9 ?_
  refine s_val rfl (v_loadr lk9 gt0) pt10 ?_
  refine s_val rfl (v_mv lk10) pt5 ?_
  refine s_nil ?_
  refine n_seq ?_
  refine w_seq ?_
  refine w_seq ?_
  refine w_reg ?_
  refine s_val rfl (v_mv lk1) pt11 ?_
  refine s_val rfl (v_eql lk11 lki) pt12 ?_
  refine s_val rfl (v_mv lk12) pt13 ?_
  first | refine s_splitP gt13 pt13 pt13 (fun hg13 => ?_) (fun hg13 => ?_) | refine s_splitB gt13 pt13 pt13 (fun hg13 => ?_) (fun hg13 => ?_)
  · skip
    refine s_do gt13 ?_
    refine s_val rfl (v_mv lk0) pt14 ?_
    refine s_do gt13 ?_
    refine s_callp (mp1 lk14 mp0) (leap_a h0 hy) pt15 ?_
    refine s_val rfl (v_pickT lk13 lk15) pt16 ?_
    refine s_nil ?_
    refine n_seq ?_
    first | refine w_cond lk16 (fun hc1 => ?_) (fun hc1 => ?_) | refine w_condB lk16 (fun hc1 => ?_) (fun hc1 => ?_)
    · skip
      refine w_reg ?_
      refine s_val rfl (v_mv lk5) pt17 ?_
      refine s_val rfl (v_add lk17 lki (by omega) (by omega)) pt18 ?_
      refine s_val rfl (v_mv lk18) pt5 ?_
      refine s_nil ?_
      refine n_seq ?_
      refine w_seq ?_
      refine w_reg ?_
      refine s_val rfl (v_mv lk5) pt19 ?_
      refine s_val rfl (v_mv lk19) pt4 ?_
      refine s_nil ?_
      refine n_seq ?_
      refine w_rets ?_
      refine w_ret (rs1 (rr_t gt4)) ?_
      refine rt (by first | rfl | (simp only [AV.lt, AV.ltL, Ent.lt, List.all_cons, List.all_nil, Bool.and_true, Bool.and_self, decide_true, nm_lt]; done) | (simp [AV.lt, AV.ltL, Ent.lt, nm_lt, *]; done) | (simp [AV.lt, AV.ltL, Ent.lt, nm_lt, *]; omega)) ?_
      refine ivx ?_; rw [he]; unfold lp; simp_all
    · skip
      refine w_skip ?_
      refine n_seq ?_
      refine w_seq ?_
      refine w_reg ?_
      refine s_val rfl (v_mv lk5) pt19 ?_
      refine s_val rfl (v_mv lk19) pt4 ?_
      refine s_nil ?_
      refine n_seq ?_
      refine w_rets ?_
      refine w_ret (rs1 (rr_t gt4)) ?_
      refine rt (by first | rfl | (simp only [AV.lt, AV.ltL, Ent.lt, List.all_cons, List.all_nil, Bool.and_true, Bool.and_self, decide_true, nm_lt]; done) | (simp [AV.lt, AV.ltL, Ent.lt, nm_lt, *]; done) | (simp [AV.lt, AV.ltL, Ent.lt, nm_lt, *]; omega)) ?_
      refine ivx ?_; rw [he]; unfold lp; simp_all
  · skip
    refine s_no gt13 pt14 ?_
    refine s_no gt13 pt15 ?_
    refine s_val rfl (v_pickF lk13 lkb) pt16 ?_
    refine s_nil ?_
    refine n_seq ?_
    refine w_condF lk16 ?_
    refine w_skip ?_
    refine n_seq ?_
    refine w_seq ?_
    refine w_reg ?_
    refine s_val rfl (v_mv lk5) pt19 ?_
    refine s_val rfl (v_mv lk19) pt4 ?_
    refine s_nil ?_
    refine n_seq ?_
    refine w_rets ?_
    refine w_ret (rs1 (rr_t gt4)) ?_
    refine rt (by first | rfl | (simp only [AV.lt, AV.ltL, Ent.lt, List.all_cons, List.all_nil, Bool.and_true, Bool.and_self, decide_true, nm_lt]; done) | (simp [AV.lt, AV.ltL, Ent.lt, nm_lt, *]; done) | (simp [AV.lt, AV.ltL, Ent.lt, nm_lt, *]; omega)) ?_
    refine ivx ?_; rw [he]; unfold lp; simp_all
theorem number_a {y m d : Int} {h : AH} (y0 : 1 ≤ y) (y1 : y ≤ 20000) (m0 : 1 ≤ m) (m1 : m ≤ 12) (d0 : -1000 ≤ d) (d1 : d ≤ 1000) : ACalls Try.prog 72 [.agg [iv y, iv m, iv d]] h fun x h' => h' = h ∧ x = .ret (iv (num y m d)) := by
  have hb := bef_bd y0 y1
  refine i72 ?_
  intro N hn hlt hlA hbd
  try simp only [AV.bdL, AV.bd, and_true, true_and] at hbd
  refine w_seq ?_
  refine w_reg ?_
  refine s_eff rfl rfl (e_box (cvl lk0 rfl) rfl (hl0 hn) ha0) pt1 ?_
  refine s_val rfl (v_mv lki) pt2 ?_
  refine s_nil ?_
  refine n_seq ?_
  refine w_seq ?_
  refine w_drwE ?_
  refine d_val rfl (v_fap0 lk1) pt5 ?_
  refine d_val rfl (v_loadp lk5 (hga hn rfl) gt0) pt6 ?_
  refine d_callp (mp1 lk6 mp0) (fun hE hX => before_a (by first | assumption | omega) (by first | assumption | omega)) pt7 ?_
  refine d_callp mp0 (fun hE hX => epoch_a) pt8 ?_
  refine d_val rfl (v_sub lk7 lk8 (by omega) (by omega)) pt9 ?_
  refine d_val rfl (v_fap0 lk1) pt10 ?_
  refine d_val rfl (v_loadp lk10 (hga hn rfl) gt2) pt11 ?_
  refine d_val rfl (v_add lk9 lk11 (by omega) (by omega)) pt12 ?_
  refine d_val rfl (v_sub lk12 lki (by omega) (by omega)) pt13 ?_
  refine d_val rfl (v_mv lk13) pt3 ?_
  refine d_nil ?_
  refine e_nil ?_
  refine s_nil ?_
  refine n_seq ?_
  refine w_seq ?_
  refine w_seq ?_
  refine w_reg ?_
  refine s_val rfl (v_mv lki) pt4 ?_
  refine s_nil ?_
  refine n_seq ?_
  refine w_block ?_
  refine w_loop (ι := Int) (fun (k : Int) => [(3, iv (bef y - 719162 + d - 1 + cum y k)), (4, iv k), (14, .any), (15, .any), (16, .any), (17, .any), (18, .any), (19, .any), (20, .any), (21, .any), (22, .any), (23, .any), (24, .any), (25, .any)]) (fun (k : Int) => []) (fun (k : Int) => 1 ≤ k ∧ k ≤ m) (fun (k : Int) => (m - k).toNat) (1) (by omega) (by try simp only [setsT, setsE, List.set_cons_zero, List.set_cons_succ]; exact ALe.same (wk1 rfl (wk1 rfl (wk1 rfl (wk1 (by first | rfl | exact ivx (by rw [cum_1]; omega)) (wk1 (by first | rfl | exact ivx (by rw [cum_1]; omega)) (wk1 rfl (wk1 rfl (wk1 rfl (wk1 rfl (wk1 rfl (wk1 rfl (wk1 rfl (wk1 rfl (wk1 rfl (wka (wka (wka (wka (wka (wka (wka (wka (wka (wka (wka (wka (wk1 rfl wk0))))))))))))))))))))))))))) rfl) ?_
  rintro k hi1
  try simp only [setsT, setsE, List.set_cons_zero, List.set_cons_succ]
  obtain ⟨hk1, hk2⟩ := hi1
  have hcb := cum_bd (y := y) (m := k) hk1 (by omega)
  refine w_seq ?_
  refine w_seq ?_
  refine w_reg ?_
  refine s_val rfl (v_mv lk4) pt14 ?_
  refine s_val rfl (v_fap0 lk1) pt15 ?_
  refine s_val rfl (v_loadp lk15 (hga hn rfl) gt1) pt16 ?_
  refine s_val rfl (v_lss lk14 lk16) pt17 ?_
  refine s_nil ?_
  refine n_seq ?_
  first | refine w_cond lk17 (fun hc1 => ?_) (fun hc1 => ?_) | refine w_condB lk17 (fun hc1 => ?_) (fun hc1 => ?_)
  · skip
    have hcs := cum_succ (y := y) (m := k) hk1 (by omega)
    have hml := mlen_bd y k
    refine w_skip ?_
    refine n_seq ?_
    refine w_seq ?_
    refine w_block ?_
    refine w_reg ?_
    refine s_val rfl (v_mv lk3) pt20 ?_
    refine s_val rfl (v_fap0 lk1) pt21 ?_
    refine s_val rfl (v_loadp lk21 (hga hn rfl) gt0) pt22 ?_
    refine s_val rfl (v_mv lk4) pt23 ?_
    refine s_callp (mp1 lk22 (mp1 lk23 mp0)) (length_a (by omega) (by omega) hk1 (by omega)) pt24 ?_
    refine s_val rfl (v_add lk20 lk24 (by omega) (by omega)) pt25 ?_
    refine s_val rfl (v_mv lk25) pt3 ?_
    refine s_nil ?_
    refine n_blk ?_
    refine n_seq ?_
    refine w_reg ?_
    refine s_val rfl (v_mv lk4) pt18 ?_
    refine s_val rfl (v_add lk18 lki (by omega) (by omega)) pt19 ?_
    refine s_val rfl (v_mv lk19) pt4 ?_
    refine s_nil ?_
    refine n_thn ?_
    refine LoopTo.mk (k + 1) (by omega) (by (try dsimp only); omega) (by (try dsimp only); (try simp only [setsT, setsE, List.set_cons_zero, List.set_cons_succ]); exact ALe.same (wk1 rfl (wk1 rfl (wk1 rfl (wk1 (by first | rfl | exact ivx (by omega)) (wk1 (by first | rfl | exact ivx (by omega)) (wk1 rfl (wk1 rfl (wk1 rfl (wk1 rfl (wk1 rfl (wk1 rfl (wk1 rfl (wk1 rfl (wk1 rfl (wka (wka (wka (wka (wka (wka (wka (wka (wka (wka (wka (wka (wk1 rfl wk0))))))))))))))))))))))))))) rfl)
  · skip
    have hkm : k = m := by omega
    refine w_exit ?_
    refine x_thn ?_
    refine x_thn ?_
    refine x_blk ?_
    refine n_seq ?_
    refine w_seq ?_
    refine w_reg ?_
    refine s_val rfl (v_mv lk3) pt26 ?_
    refine s_val rfl (v_mv lk26) pt2 ?_
    refine s_nil ?_
    refine n_seq ?_
    refine w_rets ?_
    refine w_ret (rs1 (rr_t gt2)) ?_
    refine rt (by first | rfl | (simp only [AV.lt, AV.ltL, Ent.lt, List.all_cons, List.all_nil, Bool.and_true, Bool.and_self, decide_true, nm_lt]; done) | (simp [AV.lt, AV.ltL, Ent.lt, nm_lt, *]; done) | (simp [AV.lt, AV.ltL, Ent.lt, nm_lt, *]; omega)) ?_
    refine ivx ?_; rw [hkm]; unfold num; omega
theorem is_a {y m d : Int} {h : AH} : ACalls Try.prog 71 [.agg [iv y, iv m, iv d]] h fun x h' => h' = h ∧ x = .ret (bv (isDate y m d)) := by
  refine i71 ?_
  intro N hn hlt hlA hbd
  try simp only [AV.bdL, AV.bd, and_true, true_and] at hbd
  refine w_seq ?_
  refine w_reg ?_
  refine s_eff rfl rfl (e_box (cvl lk0 rfl) rfl (hl0 hn) ha0) pt1 ?_
  refine s_val rfl (v_mv lkb) pt2 ?_
  refine s_nil ?_
  refine n_seq ?_
  refine w_seq ?_
  refine w_drwE ?_
  refine d_val rfl (v_fap0 lk1) pt3 ?_
  refine d_val rfl (v_loadp lk3 (hga hn rfl) gt0) pt4 ?_
  refine d_callp (mp1 lk4 (mp1 lki (mp1 lki mp0))) (fun hE hX => cwithin_a) pt5 ?_
  refine d_val rfl (v_mv lk5) pt6 ?_
  refine d_splitB gt6 pt6 pt6 (fun hg6 => ?_) (fun hg6 => ?_)
  · skip
    have hy : 1 ≤ y ∧ y ≤ 9999 := by unfold wi at hg6; simpa using hg6
    refine d_do gt6 ?_
    refine d_val rfl (v_fap0 lk1) pt7 ?_
    refine d_do gt6 ?_
    refine d_val rfl (v_loadp lk7 (hga hn rfl) gt1) pt8 ?_
    refine d_do gt6 ?_
    refine d_callp (mp1 lk8 (mp1 lki (mp1 lki mp0))) (fun hE hX => cwithin_a) pt9 ?_
    refine d_val rfl (v_pickT lk6 lk9) pt10 ?_
    refine d_val rfl (v_mv lk10) pt11 ?_
    refine d_splitB gt11 pt11 pt11 (fun hg11 => ?_) (fun hg11 => ?_)
    · skip
      have hm : 1 ≤ m ∧ m ≤ 12 := by unfold wi at hg11; simpa using hg11
      refine d_do gt11 ?_
      refine d_val rfl (v_fap0 lk1) pt12 ?_
      refine d_do gt11 ?_
      refine d_val rfl (v_loadp lk12 (hga hn rfl) gt2) pt13 ?_
      refine d_do gt11 ?_
      refine d_val rfl (v_fap0 lk1) pt14 ?_
      refine d_do gt11 ?_
      refine d_val rfl (v_loadp lk14 (hga hn rfl) gt0) pt15 ?_
      refine d_do gt11 ?_
      refine d_val rfl (v_fap0 lk1) pt16 ?_
      refine d_do gt11 ?_
      refine d_val rfl (v_loadp lk16 (hga hn rfl) gt1) pt17 ?_
      refine d_do gt11 ?_
      refine d_callp (mp1 lk15 (mp1 lk17 mp0)) (fun hE hX => length_a (by omega) (by omega) hm.1 hm.2) pt18 ?_
      refine d_do gt11 ?_
      refine d_callp (mp1 lk13 (mp1 lki (mp1 lk18 mp0))) (fun hE hX => cwithin_a) pt19 ?_
      refine d_val rfl (v_pickT lk11 lk19) pt20 ?_
      refine d_val rfl (v_mv lk20) pt2 ?_
      refine d_nil ?_
      refine e_nil ?_
      refine s_nil ?_
      refine n_seq ?_
      refine w_rets ?_
      refine w_ret (rs1 (rr_t gt2)) ?_
      refine rt (by first | rfl | (simp only [AV.lt, AV.ltL, Ent.lt, List.all_cons, List.all_nil, Bool.and_true, Bool.and_self, decide_true, nm_lt]; done) | (simp [AV.lt, AV.ltL, Ent.lt, nm_lt, *]; done) | (simp [AV.lt, AV.ltL, Ent.lt, nm_lt, *]; omega)) ?_
      refine bvx ?_; rw [show isDate y m d = (wi y 1 9999 && (wi m 1 12 && wi d 1 (mlen y m))) from by unfold isDate wi; simp [Bool.and_assoc]]; simp_all
    · skip
      refine d_no gt11 pt12 ?_
      refine d_no gt11 pt13 ?_
      refine d_no gt11 pt14 ?_
      refine d_no gt11 pt15 ?_
      refine d_no gt11 pt16 ?_
      refine d_no gt11 pt17 ?_
      refine d_no gt11 pt18 ?_
      refine d_no gt11 pt19 ?_
      refine d_val rfl (v_pickF lk11 lkb) pt20 ?_
      refine d_val rfl (v_mv lk20) pt2 ?_
      refine d_nil ?_
      refine e_nil ?_
      refine s_nil ?_
      refine n_seq ?_
      refine w_rets ?_
      refine w_ret (rs1 (rr_t gt2)) ?_
      refine rt (by first | rfl | (simp only [AV.lt, AV.ltL, Ent.lt, List.all_cons, List.all_nil, Bool.and_true, Bool.and_self, decide_true, nm_lt]; done) | (simp [AV.lt, AV.ltL, Ent.lt, nm_lt, *]; done) | (simp [AV.lt, AV.ltL, Ent.lt, nm_lt, *]; omega)) ?_
      refine bvx ?_; rw [show isDate y m d = (wi y 1 9999 && (wi m 1 12 && wi d 1 (mlen y m))) from by unfold isDate wi; simp [Bool.and_assoc]]; simp_all
  · skip
    refine d_no gt6 pt7 ?_
    refine d_no gt6 pt8 ?_
    refine d_no gt6 pt9 ?_
    refine d_val rfl (v_pickF lk6 lkb) pt10 ?_
    refine d_val rfl (v_mv lk10) pt11 ?_
    refine d_no gt11 pt12 ?_
    refine d_no gt11 pt13 ?_
    refine d_no gt11 pt14 ?_
    refine d_no gt11 pt15 ?_
    refine d_no gt11 pt16 ?_
    refine d_no gt11 pt17 ?_
    refine d_no gt11 pt18 ?_
    refine d_no gt11 pt19 ?_
    refine d_val rfl (v_pickF lk11 lkb) pt20 ?_
    refine d_val rfl (v_mv lk20) pt2 ?_
    refine d_nil ?_
    refine e_nil ?_
    refine s_nil ?_
    refine n_seq ?_
    refine w_rets ?_
    refine w_ret (rs1 (rr_t gt2)) ?_
    refine rt (by first | rfl | (simp only [AV.lt, AV.ltL, Ent.lt, List.all_cons, List.all_nil, Bool.and_true, Bool.and_self, decide_true, nm_lt]; done) | (simp [AV.lt, AV.ltL, Ent.lt, nm_lt, *]; done) | (simp [AV.lt, AV.ltL, Ent.lt, nm_lt, *]; omega)) ?_
    refine bvx ?_; rw [show isDate y m d = (wi y 1 9999 && (wi m 1 12 && wi d 1 (mlen y m))) from by unfold isDate wi; simp [Bool.and_assoc]]; simp_all
theorem days_a {y m d : Int} {h : AH} : ACalls Try.prog 51 [.agg [iv y, iv m, iv d]] h fun x h' => h' = h ∧ x = .ret (.tup [iv (if isDate y m d then num y m d else 0), iv (if isDate y m d then 0 else 3)]) := by
  refine i51 ?_
  intro N hn hlt hlA hbd
  try simp only [AV.bdL, AV.bd, and_true, true_and] at hbd
  refine w_seq ?_
  refine w_reg ?_
  refine s_eff rfl rfl (e_box (cvl lk0 rfl) rfl (hl0 hn) ha0) pt1 ?_
  refine s_val rfl (v_mv lki) pt2 ?_
  refine s_val rfl (v_mv lki) pt3 ?_
  refine s_nil ?_
  refine n_seq ?_
  refine w_seq ?_
  refine w_seq ?_
  refine w_reg ?_
  refine s_val rfl (v_loadpA lk1 (hga hn rfl) ACiv_tk0_3 rfl) pt4 ?_
  refine s_callp (mp1 lk4 mp0) (is_a) pt5 ?_
  refine s_val rfl (v_notB lk5) pt6 ?_
  refine s_nil ?_
  refine n_seq ?_
  refine w_condB lk6 (fun hc1 => ?_) (fun hc1 => ?_)
  · skip
    have hd : isDate y m d = false := by simpa using hc1
    refine w_seq ?_
    refine w_reg ?_
    refine s_val rfl (v_mv lki) pt2 ?_
    refine s_val rfl (v_mv lki) pt3 ?_
    refine s_nil ?_
    refine n_seq ?_
    refine w_rets ?_
    refine r_thn ?_
    refine w_ret (rsn (rm1 (rr_t gt2) (rm1 (rr_t gt3) rm0))) ?_
    refine rt (by first | rfl | (simp only [AV.lt, AV.ltL, Ent.lt, List.all_cons, List.all_nil, Bool.and_true, Bool.and_self, decide_true, nm_lt]; done) | (simp [AV.lt, AV.ltL, Ent.lt, nm_lt, *]; done) | (simp [AV.lt, AV.ltL, Ent.lt, nm_lt, *]; omega)) ?_
    rw [hd]; rfl
  · skip
    have hd : isDate y m d = true := by simpa using hc1
    have hi := isDate_iff.1 hd
    have hl := mlen_bd y m
    refine w_skip ?_
    refine n_seq ?_
    refine w_seq ?_
    refine w_reg ?_
    refine s_val rfl (v_loadpA lk1 (hga hn rfl) ACiv_tk0_3 rfl) pt7 ?_
    refine s_callp (mp1 lk7 mp0) (number_a (by omega) (by omega) (by omega) (by omega) (by omega) (by omega)) pt8 ?_
    refine s_val rfl (v_mv lk8) pt2 ?_
    refine s_val rfl (v_mv lki) pt3 ?_
    refine s_nil ?_
    refine n_seq ?_
    refine w_rets ?_
    refine w_ret (rsn (rm1 (rr_t gt2) (rm1 (rr_t gt3) rm0))) ?_
    refine rt (by first | rfl | (simp only [AV.lt, AV.ltL, Ent.lt, List.all_cons, List.all_nil, Bool.and_true, Bool.and_self, decide_true, nm_lt]; done) | (simp [AV.lt, AV.ltL, Ent.lt, nm_lt, *]; done) | (simp [AV.lt, AV.ltL, Ent.lt, nm_lt, *]; omega)) ?_
    rw [hd]; rfl
theorem date_a {n : Int} {h : AH} (h0 : -719162 ≤ n) (h1 : n ≤ 2932896) : ACalls Try.prog 90 [iv n] h fun x h' => h' = h ∧ x = .ret (dateA (dateOf n)) := by
  have hg := guess_le (n := n + 719162) (by omega)
  have hn := guess_near (n := n + 719162) (by omega) (by omega)
  have hs := yrOf_spec h0 h1
  refine i90 ?_
  intro N hn hlt hlA hbd
  try simp only [AV.bdL, AV.bd, and_true, true_and] at hbd
  refine w_seq ?_
  refine w_reg ?_
  refine s_eff rfl rfl (e_new (hl0 hn) ha0) pt2 ?_
  refine s_nil ?_
  refine n_seq ?_
  refine w_seq ?_
  refine w_reg ?_
  refine s_val rfl (v_mv lk0) pt6 ?_
  refine s_callp mp0 (epoch_a) pt7 ?_
  refine s_val rfl (v_add lk6 lk7 (by omega) (by omega)) pt8 ?_
  refine s_val rfl (v_mv lk8) pt3 ?_
  refine s_nil ?_
  refine n_seq ?_
  refine w_seq ?_
  refine w_reg ?_
  refine s_val rfl (v_mv lk3) pt9 ?_
  refine s_val rfl (v_quo lk9 lki (by omega) (by omega) (by omega)) pt10 ?_
  refine s_val rfl (v_add lk10 lki (by omega) (by omega)) pt11 ?_
  refine s_val rfl (v_mv lk11) pt4 ?_
  refine s_nil ?_
  refine n_seq ?_
  refine w_seq ?_
  refine w_block ?_
  refine w_loop (ι := Nat × Int) (fun (x_ : Nat × Int) => match x_ with | ⟨k, y⟩ => [(4, iv y), (12, .any), (13, .any), (14, .any), (15, .any), (16, .any), (17, .any), (18, .any)]) (fun (x_ : Nat × Int) => match x_ with | ⟨k, y⟩ => []) (fun (x_ : Nat × Int) => match x_ with | ⟨k, y⟩ => yrOf n = yrUp k (n + 719162) y ∧ 1 ≤ y ∧ y + k ≤ 10100 ∧ bef y ≤ n + 719162 ∧ n + 719162 < bef y + 365 * (k : Int) + 365) (fun (x_ : Nat × Int) => match x_ with | ⟨k, y⟩ => k) (⟨60, (n + 719162) / 366 + 1⟩) (by exact ⟨rfl, by omega, by omega, hg, by omega⟩) (by try simp only [setsT, setsE, List.set_cons_zero, List.set_cons_succ]; exact ALe.same (wk1 rfl (wk1 rfl (wk1 rfl (wk1 rfl (wk1 (by first | rfl | exact ivx (by omega) | (simp; done)) (wk1 rfl (wk1 rfl (wk1 rfl (wk1 rfl (wk1 rfl (wk1 rfl (wk1 rfl (wka (wka (wka (wka (wka (wka (wka (wk1 rfl (wk1 rfl (wk1 rfl (wk1 rfl (wk1 rfl (wk1 rfl (wk1 rfl (wk1 rfl (wk1 rfl (wk1 rfl (wk1 rfl (wk1 rfl (wk1 rfl (wk1 rfl (wk1 rfl (wk1 rfl (wk1 rfl (wk1 rfl (wk1 rfl (wk1 rfl (wk1 rfl wk0)))))))))))))))))))))))))))))))))))))))) rfl) ?_
  rintro ⟨k, y⟩ hi1
  try simp only [setsT, setsE, List.set_cons_zero, List.set_cons_succ]
  obtain ⟨hy1, hy2, hy3, hy4, hy5⟩ := hi1
  refine w_seq ?_
  refine w_seq ?_
  refine w_reg ?_
  refine s_val rfl (v_mv lk4) pt12 ?_
  refine s_val rfl (v_add lk12 lki (by omega) (by omega)) pt13 ?_
  refine s_callp (mp1 lk13 mp0) (before_a (by omega) (by omega)) pt14 ?_
  refine s_val rfl (v_mv lk3) pt15 ?_
  refine s_val rfl (v_leq lk14 lk15) pt16 ?_
  refine s_nil ?_
  refine n_seq ?_
  first | refine w_cond lk16 (fun hc1 => ?_) (fun hc1 => ?_) | refine w_condB lk16 (fun hc1 => ?_) (fun hc1 => ?_)
  · skip
    obtain ⟨j, rfl⟩ : ∃ j, k = j + 1 := by
      cases k with
      | zero => exfalso; have := bef_step (a := y) (b := y + 1) (by omega); have := bef_succ y; have := lp_01 y; unfold bef at *; omega
      | succ j => exact ⟨j, rfl⟩
    have hst := bef_step (a := y) (b := y + 1) (by omega)
    refine w_skip ?_
    refine n_seq ?_
    refine w_block ?_
    refine w_reg ?_
    refine s_val rfl (v_mv lk4) pt17 ?_
    refine s_val rfl (v_add lk17 lki (by omega) (by omega)) pt18 ?_
    refine s_val rfl (v_mv lk18) pt4 ?_
    refine s_nil ?_
    refine n_blk ?_
    refine n_thn ?_
    refine LoopTo.mk (⟨j, y + 1⟩) (by omega) (by (try dsimp only); exact ⟨by rw [hy1, yrUp, if_pos hc1], by omega, by omega, hc1, by omega⟩) (by (try dsimp only); (try simp only [setsT, setsE, List.set_cons_zero, List.set_cons_succ]); exact ALe.same (wk1 rfl (wk1 rfl (wk1 rfl (wk1 rfl (wk1 (by first | rfl | exact ivx (by omega) | (simp; done)) (wk1 rfl (wk1 rfl (wk1 rfl (wk1 rfl (wk1 rfl (wk1 rfl (wk1 rfl (wka (wka (wka (wka (wka (wka (wka (wk1 rfl (wk1 rfl (wk1 rfl (wk1 rfl (wk1 rfl (wk1 rfl (wk1 rfl (wk1 rfl (wk1 rfl (wk1 rfl (wk1 rfl (wk1 rfl (wk1 rfl (wk1 rfl (wk1 rfl (wk1 rfl (wk1 rfl (wk1 rfl (wk1 rfl (wk1 rfl (wk1 rfl wk0)))))))))))))))))))))))))))))))))))))))) rfl)
  · skip
    have hyy : yrOf n = y := by rw [hy1]; cases k with
      | zero => rfl
      | succ j => rw [yrUp, if_neg hc1]
    rw [hyy] at hs
    have hbs := bef_succ y
    have hl01 := lp_01 y
    refine w_exit ?_
    refine x_thn ?_
    refine x_thn ?_
    refine x_blk ?_
    refine n_seq ?_
    refine w_seq ?_
    refine w_reg ?_
    refine s_val rfl (v_mv lk3) pt19 ?_
    refine s_val rfl (v_mv lk4) pt20 ?_
    refine s_callp (mp1 lk20 mp0) (before_a (by omega) (by omega)) pt21 ?_
    refine s_val rfl (v_sub lk19 lk21 (by omega) (by omega)) pt22 ?_
    refine s_val rfl (v_mv lk22) pt3 ?_
    refine s_nil ?_
    refine n_seq ?_
    refine w_seq ?_
    refine w_reg ?_
    refine s_val rfl (v_mv lki) pt5 ?_
    refine s_nil ?_
    refine n_seq ?_
    refine w_seq ?_
    refine w_block ?_
    refine w_loop (ι := Nat × Int × Int) (fun (x_ : Nat × Int × Int) => match x_ with | ⟨k, m, r⟩ => [(3, iv r), (5, iv m), (23, .any), (24, .any), (25, .any), (26, .any), (27, .any), (28, .any), (29, .any), (30, .any), (31, .any), (32, .any), (33, .any), (34, .any)]) (fun (x_ : Nat × Int × Int) => match x_ with | ⟨k, m, r⟩ => []) (fun (x_ : Nat × Int × Int) => match x_ with | ⟨k, m, r⟩ => moUp 12 y 1 (n + 719162 - bef y) = moUp k y m r ∧ 1 ≤ m ∧ m + k = 13 ∧ 0 ≤ r ∧ cum y m + r < 365 + lp y) (fun (x_ : Nat × Int × Int) => match x_ with | ⟨k, m, r⟩ => k) (⟨12, 1, n + 719162 - bef y⟩) (by exact ⟨rfl, by omega, by omega, by omega, by rw [cum_1]; omega⟩) (by try simp only [setsT, setsE, List.set_cons_zero, List.set_cons_succ]; exact ALe.same (wk1 rfl (wk1 rfl (wk1 rfl (wk1 (by first | rfl | exact ivx (by omega) | (simp; done)) (wk1 rfl (wk1 (by first | rfl | exact ivx (by omega) | (simp; done)) (wk1 rfl (wk1 rfl (wk1 rfl (wk1 rfl (wk1 rfl (wk1 rfl (wk1 rfl (wk1 rfl (wk1 rfl (wk1 rfl (wk1 rfl (wk1 rfl (wk1 rfl (wk1 rfl (wk1 rfl (wk1 rfl (wk1 rfl (wka (wka (wka (wka (wka (wka (wka (wka (wka (wka (wka (wka (wk1 rfl (wk1 rfl (wk1 rfl (wk1 rfl (wk1 rfl wk0)))))))))))))))))))))))))))))))))))))))) rfl) ?_
    rintro ⟨k, m, r⟩ hi2
    try simp only [setsT, setsE, List.set_cons_zero, List.set_cons_succ]
    obtain ⟨hm1, hm2, hm3, hm4, hm5⟩ := hi2
    have hm12 : m ≤ 12 := by
      rcases Int.lt_or_le 12 m with e | e
      · have : m = 13 := by omega
        subst this; rw [cum_13] at hm5; omega
      · exact e
    have hcs := cum_succ (y := y) (m := m) hm2 hm12
    have hcb := cum_bd (y := y) (m := m) hm2 (by omega)
    have hml := mlen_bd y m
    refine w_seq ?_
    refine w_seq ?_
    refine w_reg ?_
    refine s_val rfl (v_mv lk3) pt23 ?_
    refine s_val rfl (v_mv lk4) pt24 ?_
    refine s_val rfl (v_mv lk5) pt25 ?_
    refine s_callp (mp1 lk24 (mp1 lk25 mp0)) (length_a (by omega) (by omega) hm2 hm12) pt26 ?_
    refine s_val rfl (v_geq lk23 lk26) pt27 ?_
    refine s_nil ?_
    refine n_seq ?_
    first | refine w_cond lk27 (fun hc2 => ?_) (fun hc2 => ?_) | refine w_condB lk27 (fun hc2 => ?_) (fun hc2 => ?_)
    · skip
      obtain ⟨j, rfl⟩ : ∃ j, k = j + 1 := ⟨k - 1, by omega⟩
      refine w_skip ?_
      refine n_seq ?_
      refine w_block ?_
      refine w_seq ?_
      refine w_reg ?_
      refine s_val rfl (v_mv lk3) pt28 ?_
      refine s_val rfl (v_mv lk4) pt29 ?_
      refine s_val rfl (v_mv lk5) pt30 ?_
      refine s_callp (mp1 lk29 (mp1 lk30 mp0)) (length_a (by omega) (by omega) hm2 hm12) pt31 ?_
      refine s_val rfl (v_sub lk28 lk31 (by omega) (by omega)) pt32 ?_
      refine s_val rfl (v_mv lk32) pt3 ?_
      refine s_nil ?_
      refine n_seq ?_
      refine w_reg ?_
      refine s_val rfl (v_mv lk5) pt33 ?_
      refine s_val rfl (v_add lk33 lki (by omega) (by omega)) pt34 ?_
      refine s_val rfl (v_mv lk34) pt5 ?_
      refine s_nil ?_
      refine n_blk ?_
      refine n_thn ?_
      refine LoopTo.mk (⟨j, m + 1, r - mlen y m⟩) (by omega) (by (try dsimp only); exact ⟨by rw [hm1, moUp, if_pos hc2], by omega, by omega, by omega, by omega⟩) (by (try dsimp only); (try simp only [setsT, setsE, List.set_cons_zero, List.set_cons_succ]); exact ALe.same (wk1 rfl (wk1 rfl (wk1 rfl (wk1 (by first | rfl | exact ivx (by omega) | (simp; done)) (wk1 rfl (wk1 (by first | rfl | exact ivx (by omega) | (simp; done)) (wk1 rfl (wk1 rfl (wk1 rfl (wk1 rfl (wk1 rfl (wk1 rfl (wk1 rfl (wk1 rfl (wk1 rfl (wk1 rfl (wk1 rfl (wk1 rfl (wk1 rfl (wk1 rfl (wk1 rfl (wk1 rfl (wk1 rfl (wka (wka (wka (wka (wka (wka (wka (wka (wka (wka (wka (wka (wk1 rfl (wk1 rfl (wk1 rfl (wk1 rfl (wk1 rfl wk0)))))))))))))))))))))))))))))))))))))))) rfl)
    · skip
      have hmm : moUp 12 y 1 (n + 719162 - bef y) = (m, r) := by rw [hm1]; cases k with
        | zero => rfl
        | succ j => rw [moUp, if_neg hc2]
      refine w_exit ?_
      refine x_thn ?_
      refine x_thn ?_
      refine x_blk ?_
      refine n_seq ?_
      refine w_seq ?_
      refine w_reg ?_
      refine s_val rfl (v_mv lk4) pt35 ?_
      refine s_val rfl (v_mv lk5) pt36 ?_
      refine s_val rfl (v_mv lk3) pt37 ?_
      refine s_val rfl (v_add lk37 lki (by omega) (by omega)) pt38 ?_
      refine s_val rfl (v_build (ACiv_Date_42 (cvl lk35 rfl) rfl (cvl lk36 rfl) rfl (cvl lk38 rfl) rfl)) pt39 ?_
      refine s_eff rfl rfl (e_store lk2 (cvl lk39 rfl) (hga hn rfl) rfl (Nat.le_of_ble_eq_true rfl) rfl ACiv_sc0_3 (hs0 hn)) ptn ?_
      refine s_nil ?_
      refine n_seq ?_
      refine w_rets ?_
      refine w_ret (rs1 (rr_c gt2 (hga hn rfl) (ld1 ACiv_tk0_3 rfl))) ?_
      refine rt (by first | rfl | (simp only [AV.lt, AV.ltL, Ent.lt, List.all_cons, List.all_nil, Bool.and_true, Bool.and_self, decide_true, nm_lt]; done) | (simp [AV.lt, AV.ltL, Ent.lt, nm_lt, *]; done) | (simp [AV.lt, AV.ltL, Ent.lt, nm_lt, *]; omega)) ?_
      have hdo : dateOf n = (y, m, r + 1) := by simp only [dateOf, hyy, hmm]
      rw [hdo]
theorem of_a {n : Int} {h : AH} : ACalls Try.prog 70 [iv n] h fun x h' => h' = h ∧ x = .ret (.tup [dateA (if -719162 ≤ n ∧ n ≤ 2932896 then dateOf n else (0, 0, 0)), iv (if -719162 ≤ n ∧ n ≤ 2932896 then 0 else 3)]) := by
  refine i70 ?_
  intro N hn hlt hlA hbd
  try simp only [AV.bdL, AV.bd, and_true, true_and] at hbd
  refine w_seq ?_
  refine w_reg ?_
  refine s_eff rfl rfl (e_new (hl0 hn) ha0) pt2 ?_
  refine s_val rfl (v_mv lki) pt3 ?_
  refine s_nil ?_
  refine n_seq ?_
  refine w_seq ?_
  refine w_seq ?_
  refine w_reg ?_
  refine s_val rfl (v_mv lk0) pt4 ?_
  refine s_callp mp0 (first_a) pt5 ?_
  refine s_callp mp0 (last_a) pt6 ?_
  refine s_callp (mp1 lk4 (mp1 lk5 (mp1 lk6 mp0))) (cwithin_a) pt7 ?_
  refine s_val rfl (v_notB lk7) pt8 ?_
  refine s_nil ?_
  refine n_seq ?_
  refine w_condB lk8 (fun hc1 => ?_) (fun hc1 => ?_)
  · skip
    have hno : ¬ (-719162 ≤ n ∧ n ≤ 2932896) := by unfold wi at hc1; simp at hc1; omega
    refine w_seq ?_
    refine w_reg ?_
    refine s_val rfl (v_build ACiv_Of_8) pt9 ?_
    refine s_eff rfl rfl (e_store lk2 (cvl lk9 rfl) (hga hn rfl) rfl (Nat.le_of_ble_eq_true rfl) rfl ACiv_sc0_3 (hs0 hn)) ptn ?_
    refine s_val rfl (v_mv lki) pt3 ?_
    refine s_nil ?_
    refine n_seq ?_
    refine w_rets ?_
    refine r_thn ?_
    refine w_ret (rsn (rm1 (rr_c gt2 (hga hn rfl) (ld1 ACiv_tk0_3 rfl)) (rm1 (rr_t gt3) rm0))) ?_
    refine rt (by first | rfl | (simp only [AV.lt, AV.ltL, Ent.lt, List.all_cons, List.all_nil, Bool.and_true, Bool.and_self, decide_true, nm_lt]; done) | (simp [AV.lt, AV.ltL, Ent.lt, nm_lt, *]; done) | (simp [AV.lt, AV.ltL, Ent.lt, nm_lt, *]; omega)) ?_
    rw [if_neg hno, if_neg hno]
  · skip
    have hyes : -719162 ≤ n ∧ n ≤ 2932896 := by unfold wi at hc1; simp at hc1; omega
    refine w_skip ?_
    refine n_seq ?_
    refine w_seq ?_
    refine w_reg ?_
    refine s_val rfl (v_mv lk0) pt10 ?_
    refine s_callp (mp1 lk10 mp0) (date_a hyes.1 hyes.2) pt11 ?_
    refine s_eff rfl rfl (e_store lk2 (cvl lk11 rfl) (hga hn rfl) rfl (Nat.le_of_ble_eq_true rfl) rfl ACiv_sc0_3 (hs0 hn)) ptn ?_
    refine s_val rfl (v_mv lki) pt3 ?_
    refine s_nil ?_
    refine n_seq ?_
    refine w_rets ?_
    refine w_ret (rsn (rm1 (rr_c gt2 (hga hn rfl) (ld1 ACiv_tk0_3 rfl)) (rm1 (rr_t gt3) rm0))) ?_
    refine rt (by first | rfl | (simp only [AV.lt, AV.ltL, Ent.lt, List.all_cons, List.all_nil, Bool.and_true, Bool.and_self, decide_true, nm_lt]; done) | (simp [AV.lt, AV.ltL, Ent.lt, nm_lt, *]; done) | (simp [AV.lt, AV.ltL, Ent.lt, nm_lt, *]; omega)) ?_
    rw [if_pos hyes, if_pos hyes]
end Go.Proofs.Ytmbebimingkfeaa
