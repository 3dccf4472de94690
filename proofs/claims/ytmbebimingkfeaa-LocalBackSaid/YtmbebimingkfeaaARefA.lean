/-
  Contracts on plain data: the reference's days, signs and tables. Conditions: those that each theorem names.
-/
import Derived.Test.YtmbebimingkfeaaATabB
set_option linter.unusedVariables false
set_option linter.unusedSimpArgs false
set_option maxRecDepth 100000
namespace Go.Proofs.Ytmbebimingkfeaa
open Go.Ab Civ
section
theorem ARefA_FirstDay_2 {τ : Operand → AV} {y0 y1 y2 : Operand} {x0_0 x1_0 x2_0 : AV} (h0 : cellsV (τ y0) = some [x0_0]) (l0 : [x0_0].all leaf = true) (h1 : cellsV (τ y1) = some [x1_0]) (l1 : [x1_0].all leaf = true) (h2 : cellsV (τ y2) = some [x2_0]) (l2 : [x2_0].all leaf = true) : fillAV τ [(0, 1, y0), (1, 1, y1), (2, 1, y2)] [(.v (.int .i64 0)), (.v (.int .i64 0)), (.v (.int .i64 0))] = some [x0_0, x1_0, x2_0] := by
  simp only [fillAV, h0, l0, h1, l1, h2, l2]
  rfl
theorem ARefA_LastDay_2 {τ : Operand → AV} {y0 y1 y2 : Operand} {x0_0 x1_0 x2_0 : AV} (h0 : cellsV (τ y0) = some [x0_0]) (l0 : [x0_0].all leaf = true) (h1 : cellsV (τ y1) = some [x1_0]) (l1 : [x1_0].all leaf = true) (h2 : cellsV (τ y2) = some [x2_0]) (l2 : [x2_0].all leaf = true) : fillAV τ [(0, 1, y0), (1, 1, y1), (2, 1, y2)] [(.v (.int .i64 0)), (.v (.int .i64 0)), (.v (.int .i64 0))] = some [x0_0, x1_0, x2_0] := by
  simp only [fillAV, h0, l0, h1, l1, h2, l2]
  rfl
theorem ARefA_tk0_3 {a0 a1 a2 : AV} {l : List AV} : ((a0 :: a1 :: a2 :: l).drop 0).take 3 = [a0, a1, a2] := rfl
theorem ARefA_sc0_3 {a0 a1 a2 c0 c1 c2 : AV} {l : List AV} : setCells (a0 :: a1 :: a2 :: l) 0 [c0, c1, c2] = c0 :: c1 :: c2 :: l := rfl
theorem ARefA_tk_4 {a0 a1 a2 a3 : AV} {l : List AV} : (a0 :: a1 :: a2 :: a3 :: l).take 4 = [a0, a1, a2, a3] := rfl
theorem ARefA_sc0_4 {a0 a1 a2 a3 c0 c1 c2 c3 : AV} {l : List AV} : setCells (a0 :: a1 :: a2 :: a3 :: l) 0 [c0, c1, c2, c3] = c0 :: c1 :: c2 :: c3 :: l := rfl
theorem ARefA_tk1_3 {a0 a1 a2 a3 : AV} {l : List AV} : ((a0 :: a1 :: a2 :: a3 :: l).drop 1).take 3 = [a1, a2, a3] := rfl
theorem ARefA_eq_iis {a0 b0 : Int} {a1 b1 : Int} {a2 b2 : ByteArray} : eqCells [.int, .int, .str] [iv a0, iv a1, sv a2] [iv b0, iv b1, sv b2] = some (decide (a0 = b0 ∧ a1 = b1 ∧ a2 = b2)) := by
  simp only [eqCells, eqLeaf, if_true, bytes_beq, Option.some.injEq]
  simp only [Bool.decide_and, Bool.and_true]
  try (congr 1 <;> simp)
  try rfl
end
/-- datelineref.between -/
def c39 : AC := (.seq (.reg [⟨(some 6), none, (.mv (.const (.bool false)))⟩]) (.seq (.reg [⟨(some 7), none, (.mv (.tmp 0))⟩, ⟨(some 8), none, (.mv (.tmp 1))⟩, ⟨(some 9), none, (.bin .geq (.tmp 7) (.tmp 8))⟩, ⟨(some 10), none, (.mv (.tmp 9))⟩, ⟨(some 11), (some (10, true)), (.mv (.tmp 0))⟩, ⟨(some 12), (some (10, true)), (.mv (.tmp 2))⟩, ⟨(some 13), (some (10, true)), (.bin .leq (.tmp 11) (.tmp 12))⟩, ⟨(some 14), none, (.pick (.tmp 10) (.tmp 13) (.const (.bool false)))⟩, ⟨(some 6), none, (.mv (.tmp 14))⟩]) .ret))
theorem k39 : compF Try.prog 39 = some ⟨c39, [(.tmp 6)], 15⟩ := by kernel_rfl
theorem i39 {a0 a1 a2 : AV} {h : AH} {R : AE → Prop} (hw : ∀ n, h.length = n → (∀ e ∈ h, e.lt n = true) → AV.ltL n [a0, a1, a2] = true → AV.bdL [a0, a1, a2] → aw Try.prog n c39 (retA [(.tmp 6)] fun x h' => ∃ z, h' = h ++ z ∧ x.lt n = true ∧ R x) [a0, a1, a2, .any, .any, .any, .any, .any, .any, .any, .any, .any, .any, .any, .any] (h ++ [])) : ACalls Try.prog 39 [a0, a1, a2] h fun x h' => h' = h ∧ R x := ACalls.into k39 rfl hw
theorem w39 {a0 a1 a2 : AV} {h : AH} {res : AV} (hw : ∀ n, h.length = n → (∀ e ∈ h, e.lt n = true) → AV.ltL n [a0, a1, a2] = true → AV.bdL [a0, a1, a2] → aw Try.prog n c39 (retA [(.tmp 6)] fun x h' => ∃ z, h' = h ++ z ∧ x.lt n = true ∧ ∃ c, x = .ret c ∧ Wk c res) [a0, a1, a2, .any, .any, .any, .any, .any, .any, .any, .any, .any, .any, .any, .any] (h ++ [])) : ACalls Try.prog 39 [a0, a1, a2] h fun x h' => h' = h ∧ x = .ret res := ACalls.weak (ACalls.into k39 rfl hw)
theorem n39 {a0 a1 a2 : AV} {h : AH} {R : AE → AH → Prop} (hw : ∀ n, h.length = n → (∀ e ∈ h, e.lt n = true) → AV.ltL n [a0, a1, a2] = true → AV.bdL [a0, a1, a2] → aw Try.prog n c39 (retA [(.tmp 6)] R) [a0, a1, a2, .any, .any, .any, .any, .any, .any, .any, .any, .any, .any, .any, .any] (h ++ [])) : ACalls Try.prog 39 [a0, a1, a2] h R := ACalls.intoN k39 rfl hw
theorem j39 {a0 a1 a2 : AV} {h : AH} {R : AE → AH → Prop} (hw : ∀ n, h.length = n → (∀ e ∈ h, e.lt n = true) → AV.ltL n [a0, a1, a2] = true → AV.bdL [a0, a1, a2] → aw Try.prog n c39 (retA [(.tmp 6)] fun x h' => ∃ y z, h' = y ++ z ∧ y.length = n ∧ (∀ e ∈ y, e.lt n = true) ∧ x.lt n = true ∧ R x y) [a0, a1, a2, .any, .any, .any, .any, .any, .any, .any, .any, .any, .any, .any, .any] (h ++ [])) : ACalls Try.prog 39 [a0, a1, a2] h R := ACalls.intoG k39 rfl hw
/-- datelineref.isLetter -/
def c82 : AC := (.seq (.reg [⟨(some 2), none, (.mv (.const (.bool false)))⟩]) (.seq (.reg [⟨(some 3), none, (.mv (.tmp 0))⟩, ⟨(some 4), none, (.cvi .i64 (.tmp 3))⟩, ⟨(some 5), none, (.call (.func 39) [(.tmp 4), (.const (.int .i64 97)), (.const (.int .i64 122))])⟩, ⟨(some 6), none, (.mv (.tmp 5))⟩, ⟨(some 7), (some (6, false)), (.mv (.tmp 0))⟩, ⟨(some 8), (some (6, false)), (.cvi .i64 (.tmp 7))⟩, ⟨(some 9), (some (6, false)), (.call (.func 39) [(.tmp 8), (.const (.int .i64 65)), (.const (.int .i64 90))])⟩, ⟨(some 10), none, (.pick (.tmp 6) (.const (.bool true)) (.tmp 9))⟩, ⟨(some 2), none, (.mv (.tmp 10))⟩]) .ret))
theorem k82 : compF Try.prog 82 = some ⟨c82, [(.tmp 2)], 11⟩ := by kernel_rfl
theorem i82 {a0 : AV} {h : AH} {R : AE → Prop} (hw : ∀ n, h.length = n → (∀ e ∈ h, e.lt n = true) → AV.ltL n [a0] = true → AV.bdL [a0] → aw Try.prog n c82 (retA [(.tmp 2)] fun x h' => ∃ z, h' = h ++ z ∧ x.lt n = true ∧ R x) [a0, .any, .any, .any, .any, .any, .any, .any, .any, .any, .any] (h ++ [])) : ACalls Try.prog 82 [a0] h fun x h' => h' = h ∧ R x := ACalls.into k82 rfl hw
theorem w82 {a0 : AV} {h : AH} {res : AV} (hw : ∀ n, h.length = n → (∀ e ∈ h, e.lt n = true) → AV.ltL n [a0] = true → AV.bdL [a0] → aw Try.prog n c82 (retA [(.tmp 2)] fun x h' => ∃ z, h' = h ++ z ∧ x.lt n = true ∧ ∃ c, x = .ret c ∧ Wk c res) [a0, .any, .any, .any, .any, .any, .any, .any, .any, .any, .any] (h ++ [])) : ACalls Try.prog 82 [a0] h fun x h' => h' = h ∧ x = .ret res := ACalls.weak (ACalls.into k82 rfl hw)
theorem n82 {a0 : AV} {h : AH} {R : AE → AH → Prop} (hw : ∀ n, h.length = n → (∀ e ∈ h, e.lt n = true) → AV.ltL n [a0] = true → AV.bdL [a0] → aw Try.prog n c82 (retA [(.tmp 2)] R) [a0, .any, .any, .any, .any, .any, .any, .any, .any, .any, .any] (h ++ [])) : ACalls Try.prog 82 [a0] h R := ACalls.intoN k82 rfl hw
theorem j82 {a0 : AV} {h : AH} {R : AE → AH → Prop} (hw : ∀ n, h.length = n → (∀ e ∈ h, e.lt n = true) → AV.ltL n [a0] = true → AV.bdL [a0] → aw Try.prog n c82 (retA [(.tmp 2)] fun x h' => ∃ y z, h' = y ++ z ∧ y.length = n ∧ (∀ e ∈ y, e.lt n = true) ∧ x.lt n = true ∧ R x y) [a0, .any, .any, .any, .any, .any, .any, .any, .any, .any, .any] (h ++ [])) : ACalls Try.prog 82 [a0] h R := ACalls.intoG k82 rfl hw
/-- datelineref.isDigit -/
def c83 : AC := (.seq (.reg [⟨(some 2), none, (.mv (.const (.bool false)))⟩]) (.seq (.reg [⟨(some 3), none, (.mv (.tmp 0))⟩, ⟨(some 4), none, (.cvi .i64 (.tmp 3))⟩, ⟨(some 5), none, (.call (.func 39) [(.tmp 4), (.const (.int .i64 48)), (.const (.int .i64 57))])⟩, ⟨(some 2), none, (.mv (.tmp 5))⟩]) .ret))
theorem k83 : compF Try.prog 83 = some ⟨c83, [(.tmp 2)], 6⟩ := by kernel_rfl
theorem i83 {a0 : AV} {h : AH} {R : AE → Prop} (hw : ∀ n, h.length = n → (∀ e ∈ h, e.lt n = true) → AV.ltL n [a0] = true → AV.bdL [a0] → aw Try.prog n c83 (retA [(.tmp 2)] fun x h' => ∃ z, h' = h ++ z ∧ x.lt n = true ∧ R x) [a0, .any, .any, .any, .any, .any] (h ++ [])) : ACalls Try.prog 83 [a0] h fun x h' => h' = h ∧ R x := ACalls.into k83 rfl hw
theorem w83 {a0 : AV} {h : AH} {res : AV} (hw : ∀ n, h.length = n → (∀ e ∈ h, e.lt n = true) → AV.ltL n [a0] = true → AV.bdL [a0] → aw Try.prog n c83 (retA [(.tmp 2)] fun x h' => ∃ z, h' = h ++ z ∧ x.lt n = true ∧ ∃ c, x = .ret c ∧ Wk c res) [a0, .any, .any, .any, .any, .any] (h ++ [])) : ACalls Try.prog 83 [a0] h fun x h' => h' = h ∧ x = .ret res := ACalls.weak (ACalls.into k83 rfl hw)
theorem n83 {a0 : AV} {h : AH} {R : AE → AH → Prop} (hw : ∀ n, h.length = n → (∀ e ∈ h, e.lt n = true) → AV.ltL n [a0] = true → AV.bdL [a0] → aw Try.prog n c83 (retA [(.tmp 2)] R) [a0, .any, .any, .any, .any, .any] (h ++ [])) : ACalls Try.prog 83 [a0] h R := ACalls.intoN k83 rfl hw
theorem j83 {a0 : AV} {h : AH} {R : AE → AH → Prop} (hw : ∀ n, h.length = n → (∀ e ∈ h, e.lt n = true) → AV.ltL n [a0] = true → AV.bdL [a0] → aw Try.prog n c83 (retA [(.tmp 2)] fun x h' => ∃ y z, h' = y ++ z ∧ y.length = n ∧ (∀ e ∈ y, e.lt n = true) ∧ x.lt n = true ∧ R x y) [a0, .any, .any, .any, .any, .any] (h ++ [])) : ACalls Try.prog 83 [a0] h R := ACalls.intoG k83 rfl hw
/-- datelineref.IsPlain -/
def c66 : AC := (.seq (.reg [⟨(some 2), none, (.mv (.const (.bool false)))⟩]) (.seq (.seq (.reg [⟨(some 3), none, (.mv (.const (.int .i64 0)))⟩]) (.block 0 (.loop (.seq (.seq (.reg [⟨(some 4), none, (.mv (.tmp 3))⟩, ⟨(some 5), none, (.mv (.tmp 0))⟩, ⟨(some 6), none, (.len true (.tmp 5))⟩, ⟨(some 7), none, (.bin .lss (.tmp 4) (.tmp 6))⟩]) (.cond (.tmp 7) .skip (.exit 0))) (.seq (.block 1 (.seq (.reg [⟨(some 10), none, (.mv (.tmp 0))⟩, ⟨(some 11), none, (.mv (.tmp 3))⟩, ⟨(some 12), none, (.ix (.tmp 10) (.tmp 11))⟩, ⟨(some 13), none, (.call (.func 82) [(.tmp 12)])⟩, ⟨(some 14), none, (.un .not (.tmp 13))⟩, ⟨(some 15), none, (.mv (.tmp 14))⟩, ⟨(some 16), (some (15, true)), (.mv (.tmp 0))⟩, ⟨(some 17), (some (15, true)), (.mv (.tmp 3))⟩, ⟨(some 18), (some (15, true)), (.ix (.tmp 16) (.tmp 17))⟩, ⟨(some 19), (some (15, true)), (.call (.func 83) [(.tmp 18)])⟩, ⟨(some 20), (some (15, true)), (.un .not (.tmp 19))⟩, ⟨(some 21), none, (.pick (.tmp 15) (.tmp 20) (.const (.bool false)))⟩, ⟨(some 22), none, (.mv (.tmp 21))⟩, ⟨(some 23), (some (22, true)), (.mv (.tmp 0))⟩, ⟨(some 24), (some (22, true)), (.mv (.tmp 3))⟩, ⟨(some 25), (some (22, true)), (.ix (.tmp 23) (.tmp 24))⟩, ⟨(some 26), (some (22, true)), (.bin .neq (.tmp 25) (.const (.int .u8 43)))⟩, ⟨(some 27), none, (.pick (.tmp 22) (.tmp 26) (.const (.bool false)))⟩, ⟨(some 28), none, (.mv (.tmp 27))⟩, ⟨(some 29), (some (28, true)), (.mv (.tmp 0))⟩, ⟨(some 30), (some (28, true)), (.mv (.tmp 3))⟩, ⟨(some 31), (some (28, true)), (.ix (.tmp 29) (.tmp 30))⟩, ⟨(some 32), (some (28, true)), (.bin .neq (.tmp 31) (.const (.int .u8 45)))⟩, ⟨(some 33), none, (.pick (.tmp 28) (.tmp 32) (.const (.bool false)))⟩]) (.cond (.tmp 33) (.seq (.reg [⟨(some 2), none, (.mv (.const (.bool false)))⟩]) .ret) .skip))) (.reg [⟨(some 8), none, (.mv (.tmp 3))⟩, ⟨(some 9), none, (.bin .add (.tmp 8) (.const (.int .i64 1)))⟩, ⟨(some 3), none, (.mv (.tmp 9))⟩])))))) (.seq (.reg [⟨(some 2), none, (.mv (.const (.bool true)))⟩]) .ret)))
theorem k66 : compF Try.prog 66 = some ⟨c66, [(.tmp 2)], 34⟩ := by kernel_rfl
theorem i66 {a0 : AV} {h : AH} {R : AE → Prop} (hw : ∀ n, h.length = n → (∀ e ∈ h, e.lt n = true) → AV.ltL n [a0] = true → AV.bdL [a0] → aw Try.prog n c66 (retA [(.tmp 2)] fun x h' => ∃ z, h' = h ++ z ∧ x.lt n = true ∧ R x) [a0, .any, .any, .any, .any, .any, .any, .any, .any, .any, .any, .any, .any, .any, .any, .any, .any, .any, .any, .any, .any, .any, .any, .any, .any, .any, .any, .any, .any, .any, .any, .any, .any, .any] (h ++ [])) : ACalls Try.prog 66 [a0] h fun x h' => h' = h ∧ R x := ACalls.into k66 rfl hw
theorem w66 {a0 : AV} {h : AH} {res : AV} (hw : ∀ n, h.length = n → (∀ e ∈ h, e.lt n = true) → AV.ltL n [a0] = true → AV.bdL [a0] → aw Try.prog n c66 (retA [(.tmp 2)] fun x h' => ∃ z, h' = h ++ z ∧ x.lt n = true ∧ ∃ c, x = .ret c ∧ Wk c res) [a0, .any, .any, .any, .any, .any, .any, .any, .any, .any, .any, .any, .any, .any, .any, .any, .any, .any, .any, .any, .any, .any, .any, .any, .any, .any, .any, .any, .any, .any, .any, .any, .any, .any] (h ++ [])) : ACalls Try.prog 66 [a0] h fun x h' => h' = h ∧ x = .ret res := ACalls.weak (ACalls.into k66 rfl hw)
theorem n66 {a0 : AV} {h : AH} {R : AE → AH → Prop} (hw : ∀ n, h.length = n → (∀ e ∈ h, e.lt n = true) → AV.ltL n [a0] = true → AV.bdL [a0] → aw Try.prog n c66 (retA [(.tmp 2)] R) [a0, .any, .any, .any, .any, .any, .any, .any, .any, .any, .any, .any, .any, .any, .any, .any, .any, .any, .any, .any, .any, .any, .any, .any, .any, .any, .any, .any, .any, .any, .any, .any, .any, .any] (h ++ [])) : ACalls Try.prog 66 [a0] h R := ACalls.intoN k66 rfl hw
theorem j66 {a0 : AV} {h : AH} {R : AE → AH → Prop} (hw : ∀ n, h.length = n → (∀ e ∈ h, e.lt n = true) → AV.ltL n [a0] = true → AV.bdL [a0] → aw Try.prog n c66 (retA [(.tmp 2)] fun x h' => ∃ y z, h' = y ++ z ∧ y.length = n ∧ (∀ e ∈ y, e.lt n = true) ∧ x.lt n = true ∧ R x y) [a0, .any, .any, .any, .any, .any, .any, .any, .any, .any, .any, .any, .any, .any, .any, .any, .any, .any, .any, .any, .any, .any, .any, .any, .any, .any, .any, .any, .any, .any, .any, .any, .any, .any] (h ++ [])) : ACalls Try.prog 66 [a0] h R := ACalls.intoG k66 rfl hw
/-- datelineref.DaysOf -/
def c58 : AC := (.seq (.reg [⟨(some 1), none, (.box 52 3 (.tmp 0))⟩, ⟨(some 2), none, (.mv (.const (.int .i64 0)))⟩]) (.seq (.drw [⟨(some 6), none, (.fa 0 (.tmp 1))⟩, ⟨(some 7), none, (.load false 1 (.tmp 6))⟩, ⟨(some 8), none, (.fa 1 (.tmp 1))⟩, ⟨(some 9), none, (.load false 1 (.tmp 8))⟩, ⟨(some 10), none, (.bin .sub (.tmp 9) (.const (.int .i64 3)))⟩, ⟨(some 3), none, (.mv (.tmp 7))⟩, ⟨(some 4), none, (.mv (.tmp 10))⟩] [] []) (.seq (.seq (.reg [⟨(some 11), none, (.mv (.tmp 4))⟩, ⟨(some 12), none, (.bin .lss (.tmp 11) (.const (.int .i64 0)))⟩]) (.cond (.tmp 12) (.seq (.reg [⟨(some 13), none, (.mv (.tmp 3))⟩, ⟨(some 14), none, (.bin .sub (.tmp 13) (.const (.int .i64 1)))⟩, ⟨(some 3), none, (.mv (.tmp 14))⟩]) (.reg [⟨(some 15), none, (.mv (.tmp 4))⟩, ⟨(some 16), none, (.bin .add (.tmp 15) (.const (.int .i64 12)))⟩, ⟨(some 4), none, (.mv (.tmp 16))⟩])) .skip)) (.seq (.reg [⟨(some 17), none, (.mv (.tmp 3))⟩, ⟨(some 18), none, (.bin .quo (.tmp 17) (.const (.int .i64 400)))⟩, ⟨(some 19), none, (.bin .mul (.tmp 18) (.const (.int .i64 146097)))⟩, ⟨(some 20), none, (.mv (.tmp 3))⟩, ⟨(some 21), none, (.bin .rem (.tmp 20) (.const (.int .i64 400)))⟩, ⟨(some 22), none, (.bin .mul (.tmp 21) (.const (.int .i64 365)))⟩, ⟨(some 23), none, (.bin .add (.tmp 19) (.tmp 22))⟩, ⟨(some 24), none, (.mv (.tmp 3))⟩, ⟨(some 25), none, (.bin .rem (.tmp 24) (.const (.int .i64 400)))⟩, ⟨(some 26), none, (.bin .quo (.tmp 25) (.const (.int .i64 4)))⟩, ⟨(some 27), none, (.bin .add (.tmp 23) (.tmp 26))⟩, ⟨(some 28), none, (.mv (.tmp 3))⟩, ⟨(some 29), none, (.bin .rem (.tmp 28) (.const (.int .i64 400)))⟩, ⟨(some 30), none, (.bin .quo (.tmp 29) (.const (.int .i64 100)))⟩, ⟨(some 31), none, (.bin .sub (.tmp 27) (.tmp 30))⟩, ⟨(some 5), none, (.mv (.tmp 31))⟩]) (.seq (.reg [⟨(some 32), none, (.mv (.tmp 5))⟩, ⟨(some 33), none, (.mv (.tmp 4))⟩, ⟨(some 34), none, (.bin .mul (.const (.int .i64 153)) (.tmp 33))⟩, ⟨(some 35), none, (.bin .add (.tmp 34) (.const (.int .i64 2)))⟩, ⟨(some 36), none, (.bin .quo (.tmp 35) (.const (.int .i64 5)))⟩, ⟨(some 37), none, (.bin .add (.tmp 32) (.tmp 36))⟩, ⟨(some 38), none, (.fa 2 (.tmp 1))⟩, ⟨(some 39), none, (.load false 1 (.tmp 38))⟩, ⟨(some 40), none, (.bin .add (.tmp 37) (.tmp 39))⟩, ⟨(some 41), none, (.bin .sub (.tmp 40) (.const (.int .i64 1)))⟩, ⟨(some 42), none, (.bin .sub (.tmp 41) (.const (.int .i64 719468)))⟩, ⟨(some 2), none, (.mv (.tmp 42))⟩]) .ret)))))
theorem k58 : compF Try.prog 58 = some ⟨c58, [(.tmp 2)], 43⟩ := by kernel_rfl
theorem i58 {a0 : AV} {h : AH} {R : AE → Prop} (hw : ∀ n, h.length = n → (∀ e ∈ h, e.lt n = true) → AV.ltL n [a0] = true → AV.bdL [a0] → aw Try.prog n c58 (retA [(.tmp 2)] fun x h' => ∃ z, h' = h ++ z ∧ x.lt n = true ∧ R x) [a0, .any, .any, .any, .any, .any, .any, .any, .any, .any, .any, .any, .any, .any, .any, .any, .any, .any, .any, .any, .any, .any, .any, .any, .any, .any, .any, .any, .any, .any, .any, .any, .any, .any, .any, .any, .any, .any, .any, .any, .any, .any, .any] (h ++ [])) : ACalls Try.prog 58 [a0] h fun x h' => h' = h ∧ R x := ACalls.into k58 rfl hw
theorem w58 {a0 : AV} {h : AH} {res : AV} (hw : ∀ n, h.length = n → (∀ e ∈ h, e.lt n = true) → AV.ltL n [a0] = true → AV.bdL [a0] → aw Try.prog n c58 (retA [(.tmp 2)] fun x h' => ∃ z, h' = h ++ z ∧ x.lt n = true ∧ ∃ c, x = .ret c ∧ Wk c res) [a0, .any, .any, .any, .any, .any, .any, .any, .any, .any, .any, .any, .any, .any, .any, .any, .any, .any, .any, .any, .any, .any, .any, .any, .any, .any, .any, .any, .any, .any, .any, .any, .any, .any, .any, .any, .any, .any, .any, .any, .any, .any, .any] (h ++ [])) : ACalls Try.prog 58 [a0] h fun x h' => h' = h ∧ x = .ret res := ACalls.weak (ACalls.into k58 rfl hw)
theorem n58 {a0 : AV} {h : AH} {R : AE → AH → Prop} (hw : ∀ n, h.length = n → (∀ e ∈ h, e.lt n = true) → AV.ltL n [a0] = true → AV.bdL [a0] → aw Try.prog n c58 (retA [(.tmp 2)] R) [a0, .any, .any, .any, .any, .any, .any, .any, .any, .any, .any, .any, .any, .any, .any, .any, .any, .any, .any, .any, .any, .any, .any, .any, .any, .any, .any, .any, .any, .any, .any, .any, .any, .any, .any, .any, .any, .any, .any, .any, .any, .any, .any] (h ++ [])) : ACalls Try.prog 58 [a0] h R := ACalls.intoN k58 rfl hw
theorem j58 {a0 : AV} {h : AH} {R : AE → AH → Prop} (hw : ∀ n, h.length = n → (∀ e ∈ h, e.lt n = true) → AV.ltL n [a0] = true → AV.bdL [a0] → aw Try.prog n c58 (retA [(.tmp 2)] fun x h' => ∃ y z, h' = y ++ z ∧ y.length = n ∧ (∀ e ∈ y, e.lt n = true) ∧ x.lt n = true ∧ R x y) [a0, .any, .any, .any, .any, .any, .any, .any, .any, .any, .any, .any, .any, .any, .any, .any, .any, .any, .any, .any, .any, .any, .any, .any, .any, .any, .any, .any, .any, .any, .any, .any, .any, .any, .any, .any, .any, .any, .any, .any, .any, .any, .any] (h ++ [])) : ACalls Try.prog 58 [a0] h R := ACalls.intoG k58 rfl hw
/-- datelineref.FirstDay -/
def c53 : AC := (.seq (.reg [⟨(some 0), none, (.mv (.const (.int .i64 0)))⟩]) (.seq (.reg [⟨(some 1), none, (.build [(.v (.int .i64 0)), (.v (.int .i64 0)), (.v (.int .i64 0))] [(0, (1, (.const (.int .i64 1)))), (1, (1, (.const (.int .i64 1)))), (2, (1, (.const (.int .i64 1))))])⟩, ⟨(some 2), none, (.call (.func 58) [(.tmp 1)])⟩, ⟨(some 0), none, (.mv (.tmp 2))⟩]) .ret))
theorem k53 : compF Try.prog 53 = some ⟨c53, [(.tmp 0)], 3⟩ := by kernel_rfl
theorem i53 {h : AH} {R : AE → Prop} (hw : ∀ n, h.length = n → (∀ e ∈ h, e.lt n = true) → AV.ltL n [] = true → AV.bdL [] → aw Try.prog n c53 (retA [(.tmp 0)] fun x h' => ∃ z, h' = h ++ z ∧ x.lt n = true ∧ R x) [.any, .any, .any] (h ++ [])) : ACalls Try.prog 53 [] h fun x h' => h' = h ∧ R x := ACalls.into k53 rfl hw
theorem w53 {h : AH} {res : AV} (hw : ∀ n, h.length = n → (∀ e ∈ h, e.lt n = true) → AV.ltL n [] = true → AV.bdL [] → aw Try.prog n c53 (retA [(.tmp 0)] fun x h' => ∃ z, h' = h ++ z ∧ x.lt n = true ∧ ∃ c, x = .ret c ∧ Wk c res) [.any, .any, .any] (h ++ [])) : ACalls Try.prog 53 [] h fun x h' => h' = h ∧ x = .ret res := ACalls.weak (ACalls.into k53 rfl hw)
theorem n53 {h : AH} {R : AE → AH → Prop} (hw : ∀ n, h.length = n → (∀ e ∈ h, e.lt n = true) → AV.ltL n [] = true → AV.bdL [] → aw Try.prog n c53 (retA [(.tmp 0)] R) [.any, .any, .any] (h ++ [])) : ACalls Try.prog 53 [] h R := ACalls.intoN k53 rfl hw
theorem j53 {h : AH} {R : AE → AH → Prop} (hw : ∀ n, h.length = n → (∀ e ∈ h, e.lt n = true) → AV.ltL n [] = true → AV.bdL [] → aw Try.prog n c53 (retA [(.tmp 0)] fun x h' => ∃ y z, h' = y ++ z ∧ y.length = n ∧ (∀ e ∈ y, e.lt n = true) ∧ x.lt n = true ∧ R x y) [.any, .any, .any] (h ++ [])) : ACalls Try.prog 53 [] h R := ACalls.intoG k53 rfl hw
/-- datelineref.LastDay -/
def c54 : AC := (.seq (.reg [⟨(some 0), none, (.mv (.const (.int .i64 0)))⟩]) (.seq (.reg [⟨(some 1), none, (.build [(.v (.int .i64 0)), (.v (.int .i64 0)), (.v (.int .i64 0))] [(0, (1, (.const (.int .i64 9999)))), (1, (1, (.const (.int .i64 12)))), (2, (1, (.const (.int .i64 31))))])⟩, ⟨(some 2), none, (.call (.func 58) [(.tmp 1)])⟩, ⟨(some 0), none, (.mv (.tmp 2))⟩]) .ret))
theorem k54 : compF Try.prog 54 = some ⟨c54, [(.tmp 0)], 3⟩ := by kernel_rfl
theorem i54 {h : AH} {R : AE → Prop} (hw : ∀ n, h.length = n → (∀ e ∈ h, e.lt n = true) → AV.ltL n [] = true → AV.bdL [] → aw Try.prog n c54 (retA [(.tmp 0)] fun x h' => ∃ z, h' = h ++ z ∧ x.lt n = true ∧ R x) [.any, .any, .any] (h ++ [])) : ACalls Try.prog 54 [] h fun x h' => h' = h ∧ R x := ACalls.into k54 rfl hw
theorem w54 {h : AH} {res : AV} (hw : ∀ n, h.length = n → (∀ e ∈ h, e.lt n = true) → AV.ltL n [] = true → AV.bdL [] → aw Try.prog n c54 (retA [(.tmp 0)] fun x h' => ∃ z, h' = h ++ z ∧ x.lt n = true ∧ ∃ c, x = .ret c ∧ Wk c res) [.any, .any, .any] (h ++ [])) : ACalls Try.prog 54 [] h fun x h' => h' = h ∧ x = .ret res := ACalls.weak (ACalls.into k54 rfl hw)
theorem n54 {h : AH} {R : AE → AH → Prop} (hw : ∀ n, h.length = n → (∀ e ∈ h, e.lt n = true) → AV.ltL n [] = true → AV.bdL [] → aw Try.prog n c54 (retA [(.tmp 0)] R) [.any, .any, .any] (h ++ [])) : ACalls Try.prog 54 [] h R := ACalls.intoN k54 rfl hw
theorem j54 {h : AH} {R : AE → AH → Prop} (hw : ∀ n, h.length = n → (∀ e ∈ h, e.lt n = true) → AV.ltL n [] = true → AV.bdL [] → aw Try.prog n c54 (retA [(.tmp 0)] fun x h' => ∃ y z, h' = y ++ z ∧ y.length = n ∧ (∀ e ∈ y, e.lt n = true) ∧ x.lt n = true ∧ R x y) [.any, .any, .any] (h ++ [])) : ACalls Try.prog 54 [] h R := ACalls.intoG k54 rfl hw
/-- datelineref.LeastAt -/
def c27 : AC := (.seq (.reg [⟨(some 0), none, (.mv (.const (.int .i64 0)))⟩]) (.seq (.reg [⟨(some 1), none, (.call (.func 53) [])⟩, ⟨(some 2), none, (.bin .mul (.tmp 1) (.const (.int .i64 86400)))⟩, ⟨(some 0), none, (.mv (.tmp 2))⟩]) .ret))
theorem k27 : compF Try.prog 27 = some ⟨c27, [(.tmp 0)], 3⟩ := by kernel_rfl
theorem i27 {h : AH} {R : AE → Prop} (hw : ∀ n, h.length = n → (∀ e ∈ h, e.lt n = true) → AV.ltL n [] = true → AV.bdL [] → aw Try.prog n c27 (retA [(.tmp 0)] fun x h' => ∃ z, h' = h ++ z ∧ x.lt n = true ∧ R x) [.any, .any, .any] (h ++ [])) : ACalls Try.prog 27 [] h fun x h' => h' = h ∧ R x := ACalls.into k27 rfl hw
theorem w27 {h : AH} {res : AV} (hw : ∀ n, h.length = n → (∀ e ∈ h, e.lt n = true) → AV.ltL n [] = true → AV.bdL [] → aw Try.prog n c27 (retA [(.tmp 0)] fun x h' => ∃ z, h' = h ++ z ∧ x.lt n = true ∧ ∃ c, x = .ret c ∧ Wk c res) [.any, .any, .any] (h ++ [])) : ACalls Try.prog 27 [] h fun x h' => h' = h ∧ x = .ret res := ACalls.weak (ACalls.into k27 rfl hw)
theorem n27 {h : AH} {R : AE → AH → Prop} (hw : ∀ n, h.length = n → (∀ e ∈ h, e.lt n = true) → AV.ltL n [] = true → AV.bdL [] → aw Try.prog n c27 (retA [(.tmp 0)] R) [.any, .any, .any] (h ++ [])) : ACalls Try.prog 27 [] h R := ACalls.intoN k27 rfl hw
theorem j27 {h : AH} {R : AE → AH → Prop} (hw : ∀ n, h.length = n → (∀ e ∈ h, e.lt n = true) → AV.ltL n [] = true → AV.bdL [] → aw Try.prog n c27 (retA [(.tmp 0)] fun x h' => ∃ y z, h' = y ++ z ∧ y.length = n ∧ (∀ e ∈ y, e.lt n = true) ∧ x.lt n = true ∧ R x y) [.any, .any, .any] (h ++ [])) : ACalls Try.prog 27 [] h R := ACalls.intoG k27 rfl hw
/-- datelineref.MostAt -/
def c28 : AC := (.seq (.reg [⟨(some 0), none, (.mv (.const (.int .i64 0)))⟩]) (.seq (.reg [⟨(some 1), none, (.call (.func 54) [])⟩, ⟨(some 2), none, (.bin .mul (.tmp 1) (.const (.int .i64 86400)))⟩, ⟨(some 3), none, (.bin .add (.tmp 2) (.const (.int .i64 86399)))⟩, ⟨(some 0), none, (.mv (.tmp 3))⟩]) .ret))
theorem k28 : compF Try.prog 28 = some ⟨c28, [(.tmp 0)], 4⟩ := by kernel_rfl
theorem i28 {h : AH} {R : AE → Prop} (hw : ∀ n, h.length = n → (∀ e ∈ h, e.lt n = true) → AV.ltL n [] = true → AV.bdL [] → aw Try.prog n c28 (retA [(.tmp 0)] fun x h' => ∃ z, h' = h ++ z ∧ x.lt n = true ∧ R x) [.any, .any, .any, .any] (h ++ [])) : ACalls Try.prog 28 [] h fun x h' => h' = h ∧ R x := ACalls.into k28 rfl hw
theorem w28 {h : AH} {res : AV} (hw : ∀ n, h.length = n → (∀ e ∈ h, e.lt n = true) → AV.ltL n [] = true → AV.bdL [] → aw Try.prog n c28 (retA [(.tmp 0)] fun x h' => ∃ z, h' = h ++ z ∧ x.lt n = true ∧ ∃ c, x = .ret c ∧ Wk c res) [.any, .any, .any, .any] (h ++ [])) : ACalls Try.prog 28 [] h fun x h' => h' = h ∧ x = .ret res := ACalls.weak (ACalls.into k28 rfl hw)
theorem n28 {h : AH} {R : AE → AH → Prop} (hw : ∀ n, h.length = n → (∀ e ∈ h, e.lt n = true) → AV.ltL n [] = true → AV.bdL [] → aw Try.prog n c28 (retA [(.tmp 0)] R) [.any, .any, .any, .any] (h ++ [])) : ACalls Try.prog 28 [] h R := ACalls.intoN k28 rfl hw
theorem j28 {h : AH} {R : AE → AH → Prop} (hw : ∀ n, h.length = n → (∀ e ∈ h, e.lt n = true) → AV.ltL n [] = true → AV.bdL [] → aw Try.prog n c28 (retA [(.tmp 0)] fun x h' => ∃ y z, h' = y ++ z ∧ y.length = n ∧ (∀ e ∈ y, e.lt n = true) ∧ x.lt n = true ∧ R x y) [.any, .any, .any, .any] (h ++ [])) : ACalls Try.prog 28 [] h R := ACalls.intoG k28 rfl hw
/-- datelineref.checkLocal -/
def c38 : AC := (.seq (.reg [⟨(some 1), none, (.box 23 3 (.tmp 0))⟩, ⟨(some 2), none, (.mv (.const (.int .i64 0)))⟩]) (.seq (.seq (.reg [⟨(some 3), none, (.fa 0 (.tmp 1))⟩, ⟨(some 4), none, (.load false 1 (.tmp 3))⟩, ⟨(some 5), none, (.call (.func 39) [(.tmp 4), (.const (.int .i64 (-75600))), (.const (.int .i64 75600))])⟩, ⟨(some 6), none, (.un .not (.tmp 5))⟩, ⟨(some 7), none, (.mv (.tmp 6))⟩, ⟨(some 8), (some (7, false)), (.fa 1 (.tmp 1))⟩, ⟨(some 9), (some (7, false)), (.load false 1 (.tmp 8))⟩, ⟨(some 10), (some (7, false)), (.call (.func 39) [(.tmp 9), (.const (.int .i64 0)), (.const (.int .i64 10800))])⟩, ⟨(some 11), (some (7, false)), (.un .not (.tmp 10))⟩, ⟨(some 12), none, (.pick (.tmp 7) (.const (.bool true)) (.tmp 11))⟩]) (.cond (.tmp 12) (.seq (.reg [⟨(some 2), none, (.mv (.const (.int .i64 3)))⟩]) .ret) .skip)) (.seq (.seq (.reg [⟨(some 13), none, (.fa 2 (.tmp 1))⟩, ⟨(some 14), none, (.load false 1 (.tmp 13))⟩, ⟨(some 15), none, (.bin .eql (.tmp 14) (.const (.string ⟨#[]⟩)))⟩, ⟨(some 16), none, (.mv (.tmp 15))⟩, ⟨(some 17), (some (16, false)), (.fa 2 (.tmp 1))⟩, ⟨(some 18), (some (16, false)), (.load false 1 (.tmp 17))⟩, ⟨(some 19), (some (16, false)), (.len true (.tmp 18))⟩, ⟨(some 20), (some (16, false)), (.bin .gtr (.tmp 19) (.const (.int .i64 24)))⟩, ⟨(some 21), none, (.pick (.tmp 16) (.const (.bool true)) (.tmp 20))⟩, ⟨(some 22), none, (.mv (.tmp 21))⟩, ⟨(some 23), (some (22, false)), (.fa 2 (.tmp 1))⟩, ⟨(some 24), (some (22, false)), (.load false 1 (.tmp 23))⟩, ⟨(some 25), (some (22, false)), (.call (.func 66) [(.tmp 24)])⟩, ⟨(some 26), (some (22, false)), (.un .not (.tmp 25))⟩, ⟨(some 27), none, (.pick (.tmp 22) (.const (.bool true)) (.tmp 26))⟩]) (.cond (.tmp 27) (.seq (.reg [⟨(some 2), none, (.mv (.const (.int .i64 1)))⟩]) .ret) .skip)) (.seq (.reg [⟨(some 2), none, (.mv (.const (.int .i64 0)))⟩]) .ret))))
theorem k38 : compF Try.prog 38 = some ⟨c38, [(.tmp 2)], 28⟩ := by kernel_rfl
theorem i38 {a0 : AV} {h : AH} {R : AE → Prop} (hw : ∀ n, h.length = n → (∀ e ∈ h, e.lt n = true) → AV.ltL n [a0] = true → AV.bdL [a0] → aw Try.prog n c38 (retA [(.tmp 2)] fun x h' => ∃ z, h' = h ++ z ∧ x.lt n = true ∧ R x) [a0, .any, .any, .any, .any, .any, .any, .any, .any, .any, .any, .any, .any, .any, .any, .any, .any, .any, .any, .any, .any, .any, .any, .any, .any, .any, .any, .any] (h ++ [])) : ACalls Try.prog 38 [a0] h fun x h' => h' = h ∧ R x := ACalls.into k38 rfl hw
theorem w38 {a0 : AV} {h : AH} {res : AV} (hw : ∀ n, h.length = n → (∀ e ∈ h, e.lt n = true) → AV.ltL n [a0] = true → AV.bdL [a0] → aw Try.prog n c38 (retA [(.tmp 2)] fun x h' => ∃ z, h' = h ++ z ∧ x.lt n = true ∧ ∃ c, x = .ret c ∧ Wk c res) [a0, .any, .any, .any, .any, .any, .any, .any, .any, .any, .any, .any, .any, .any, .any, .any, .any, .any, .any, .any, .any, .any, .any, .any, .any, .any, .any, .any] (h ++ [])) : ACalls Try.prog 38 [a0] h fun x h' => h' = h ∧ x = .ret res := ACalls.weak (ACalls.into k38 rfl hw)
theorem n38 {a0 : AV} {h : AH} {R : AE → AH → Prop} (hw : ∀ n, h.length = n → (∀ e ∈ h, e.lt n = true) → AV.ltL n [a0] = true → AV.bdL [a0] → aw Try.prog n c38 (retA [(.tmp 2)] R) [a0, .any, .any, .any, .any, .any, .any, .any, .any, .any, .any, .any, .any, .any, .any, .any, .any, .any, .any, .any, .any, .any, .any, .any, .any, .any, .any, .any] (h ++ [])) : ACalls Try.prog 38 [a0] h R := ACalls.intoN k38 rfl hw
theorem j38 {a0 : AV} {h : AH} {R : AE → AH → Prop} (hw : ∀ n, h.length = n → (∀ e ∈ h, e.lt n = true) → AV.ltL n [a0] = true → AV.bdL [a0] → aw Try.prog n c38 (retA [(.tmp 2)] fun x h' => ∃ y z, h' = y ++ z ∧ y.length = n ∧ (∀ e ∈ y, e.lt n = true) ∧ x.lt n = true ∧ R x y) [a0, .any, .any, .any, .any, .any, .any, .any, .any, .any, .any, .any, .any, .any, .any, .any, .any, .any, .any, .any, .any, .any, .any, .any, .any, .any, .any, .any] (h ++ [])) : ACalls Try.prog 38 [a0] h R := ACalls.intoG k38 rfl hw
/-- datelineref.CheckTable -/
def c14 : AC := (.seq (.reg [⟨(some 1), none, (.box 26 4 (.tmp 0))⟩, ⟨(some 2), none, (.mv (.const (.int .i64 0)))⟩]) (.seq (.seq (.reg [⟨(some 8), none, (.fa 3 (.tmp 1))⟩, ⟨(some 9), none, (.load false 1 (.tmp 8))⟩, ⟨(some 10), none, (.len false (.tmp 9))⟩, ⟨(some 11), none, (.bin .gtr (.tmp 10) (.const (.int .i64 1000)))⟩]) (.cond (.tmp 11) (.seq (.reg [⟨(some 2), none, (.mv (.const (.int .i64 2)))⟩]) .ret) .skip)) (.seq (.reg [⟨(some 12), none, (.fa 0 (.tmp 1))⟩, ⟨(some 13), none, (.load true 3 (.tmp 12))⟩, ⟨(some 14), none, (.call (.func 38) [(.tmp 13)])⟩, ⟨(some 3), none, (.mv (.tmp 14))⟩]) (.seq (.seq (.reg [⟨(some 15), none, (.mv (.tmp 3))⟩, ⟨(some 16), none, (.bin .neq (.tmp 15) (.const (.int .i64 0)))⟩]) (.cond (.tmp 16) (.seq (.reg [⟨(some 17), none, (.mv (.tmp 3))⟩, ⟨(some 2), none, (.mv (.tmp 17))⟩]) .ret) .skip)) (.seq (.reg [⟨(some 18), none, (.fa 0 (.tmp 1))⟩, ⟨(some 19), none, (.load true 3 (.tmp 18))⟩, ⟨(some 4), none, (.new 23 3 [(.v (.int .i64 0)), (.v (.int .i64 0)), (.v (.string ⟨#[]⟩))])⟩, ⟨none, none, (.store 3 (.tmp 4) (.tmp 19))⟩]) (.seq (.seq (.reg [⟨(some 5), none, (.mv (.const (.int .i64 0)))⟩]) (.block 0 (.loop (.seq (.seq (.reg [⟨(some 20), none, (.mv (.tmp 5))⟩, ⟨(some 21), none, (.fa 3 (.tmp 1))⟩, ⟨(some 22), none, (.load false 1 (.tmp 21))⟩, ⟨(some 23), none, (.len false (.tmp 22))⟩, ⟨(some 24), none, (.bin .lss (.tmp 20) (.tmp 23))⟩]) (.cond (.tmp 24) .skip (.exit 0))) (.seq (.block 1 (.seq (.reg [⟨(some 27), none, (.fa 3 (.tmp 1))⟩, ⟨(some 28), none, (.load false 1 (.tmp 27))⟩, ⟨(some 29), none, (.mv (.tmp 5))⟩, ⟨(some 30), none, (.ia 4 (.tmp 28) (.tmp 29))⟩, ⟨(some 31), none, (.load true 4 (.tmp 30))⟩, ⟨(some 6), none, (.new 46 4 [(.v (.int .i64 0)), (.v (.int .i64 0)), (.v (.int .i64 0)), (.v (.string ⟨#[]⟩))])⟩, ⟨none, none, (.store 4 (.tmp 6) (.tmp 31))⟩]) (.seq (.seq (.drw [⟨(some 32), none, (.fa 0 (.tmp 6))⟩, ⟨(some 33), none, (.load false 1 (.tmp 32))⟩, ⟨(some 34), none, (.call (.func 27) [])⟩, ⟨(some 35), none, (.call (.func 28) [])⟩, ⟨(some 36), none, (.call (.func 39) [(.tmp 33), (.tmp 34), (.tmp 35)])⟩, ⟨(some 37), none, (.un .not (.tmp 36))⟩] [] []) (.cond (.tmp 37) (.seq (.reg [⟨(some 2), none, (.mv (.const (.int .i64 3)))⟩]) .ret) .skip)) (.seq (.seq (.drw [⟨(some 38), none, (.mv (.tmp 5))⟩, ⟨(some 39), none, (.bin .gtr (.tmp 38) (.const (.int .i64 0)))⟩, ⟨(some 40), none, (.mv (.tmp 39))⟩, ⟨(some 41), (some (40, true)), (.fa 0 (.tmp 6))⟩, ⟨(some 42), (some (40, true)), (.load false 1 (.tmp 41))⟩, ⟨(some 43), (some (40, true)), (.fa 3 (.tmp 1))⟩, ⟨(some 44), (some (40, true)), (.load false 1 (.tmp 43))⟩, ⟨(some 45), (some (40, true)), (.mv (.tmp 5))⟩, ⟨(some 46), (some (40, true)), (.bin .sub (.tmp 45) (.const (.int .i64 1)))⟩, ⟨(some 47), (some (40, true)), (.ia 4 (.tmp 44) (.tmp 46))⟩, ⟨(some 48), (some (40, true)), (.fa 0 (.tmp 47))⟩, ⟨(some 49), (some (40, true)), (.load false 1 (.tmp 48))⟩, ⟨(some 50), (some (40, true)), (.bin .leq (.tmp 42) (.tmp 49))⟩, ⟨(some 51), none, (.pick (.tmp 40) (.tmp 50) (.const (.bool false)))⟩] [] []) (.cond (.tmp 51) (.seq (.reg [⟨(some 2), none, (.mv (.const (.int .i64 4)))⟩]) .ret) .skip)) (.seq (.reg [⟨(some 52), none, (.fa 1 (.tmp 6))⟩, ⟨(some 53), none, (.load true 3 (.tmp 52))⟩, ⟨(some 54), none, (.call (.func 38) [(.tmp 53)])⟩, ⟨(some 7), none, (.mv (.tmp 54))⟩]) (.seq (.seq (.reg [⟨(some 55), none, (.mv (.tmp 7))⟩, ⟨(some 56), none, (.bin .neq (.tmp 55) (.const (.int .i64 0)))⟩]) (.cond (.tmp 56) (.seq (.reg [⟨(some 57), none, (.mv (.tmp 7))⟩, ⟨(some 2), none, (.mv (.tmp 57))⟩]) .ret) .skip)) (.seq (.seq (.reg [⟨(some 58), none, (.fa 1 (.tmp 6))⟩, ⟨(some 59), none, (.load true 3 (.tmp 58))⟩, ⟨(some 60), none, (.load true 3 (.tmp 4))⟩, ⟨(some 61), none, (.eqs false [.int, .int, .str] (.tmp 59) (.tmp 60))⟩]) (.cond (.tmp 61) (.seq (.reg [⟨(some 2), none, (.mv (.const (.int .i64 4)))⟩]) .ret) .skip)) (.reg [⟨(some 62), none, (.fa 1 (.tmp 6))⟩, ⟨(some 63), none, (.load true 3 (.tmp 62))⟩, ⟨none, none, (.store 3 (.tmp 4) (.tmp 63))⟩])))))))) (.reg [⟨(some 25), none, (.mv (.tmp 5))⟩, ⟨(some 26), none, (.bin .add (.tmp 25) (.const (.int .i64 1)))⟩, ⟨(some 5), none, (.mv (.tmp 26))⟩])))))) (.seq (.reg [⟨(some 2), none, (.mv (.const (.int .i64 0)))⟩]) .ret)))))))
theorem k14 : compF Try.prog 14 = some ⟨c14, [(.tmp 2)], 64⟩ := by kernel_rfl
theorem i14 {a0 : AV} {h : AH} {R : AE → Prop} (hw : ∀ n, h.length = n → (∀ e ∈ h, e.lt n = true) → AV.ltL n [a0] = true → AV.bdL [a0] → aw Try.prog n c14 (retA [(.tmp 2)] fun x h' => ∃ z, h' = h ++ z ∧ x.lt n = true ∧ R x) [a0, .any, .any, .any, .any, .any, .any, .any, .any, .any, .any, .any, .any, .any, .any, .any, .any, .any, .any, .any, .any, .any, .any, .any, .any, .any, .any, .any, .any, .any, .any, .any, .any, .any, .any, .any, .any, .any, .any, .any, .any, .any, .any, .any, .any, .any, .any, .any, .any, .any, .any, .any, .any, .any, .any, .any, .any, .any, .any, .any, .any, .any, .any, .any] (h ++ [])) : ACalls Try.prog 14 [a0] h fun x h' => h' = h ∧ R x := ACalls.into k14 rfl hw
theorem w14 {a0 : AV} {h : AH} {res : AV} (hw : ∀ n, h.length = n → (∀ e ∈ h, e.lt n = true) → AV.ltL n [a0] = true → AV.bdL [a0] → aw Try.prog n c14 (retA [(.tmp 2)] fun x h' => ∃ z, h' = h ++ z ∧ x.lt n = true ∧ ∃ c, x = .ret c ∧ Wk c res) [a0, .any, .any, .any, .any, .any, .any, .any, .any, .any, .any, .any, .any, .any, .any, .any, .any, .any, .any, .any, .any, .any, .any, .any, .any, .any, .any, .any, .any, .any, .any, .any, .any, .any, .any, .any, .any, .any, .any, .any, .any, .any, .any, .any, .any, .any, .any, .any, .any, .any, .any, .any, .any, .any, .any, .any, .any, .any, .any, .any, .any, .any, .any, .any] (h ++ [])) : ACalls Try.prog 14 [a0] h fun x h' => h' = h ∧ x = .ret res := ACalls.weak (ACalls.into k14 rfl hw)
theorem n14 {a0 : AV} {h : AH} {R : AE → AH → Prop} (hw : ∀ n, h.length = n → (∀ e ∈ h, e.lt n = true) → AV.ltL n [a0] = true → AV.bdL [a0] → aw Try.prog n c14 (retA [(.tmp 2)] R) [a0, .any, .any, .any, .any, .any, .any, .any, .any, .any, .any, .any, .any, .any, .any, .any, .any, .any, .any, .any, .any, .any, .any, .any, .any, .any, .any, .any, .any, .any, .any, .any, .any, .any, .any, .any, .any, .any, .any, .any, .any, .any, .any, .any, .any, .any, .any, .any, .any, .any, .any, .any, .any, .any, .any, .any, .any, .any, .any, .any, .any, .any, .any, .any] (h ++ [])) : ACalls Try.prog 14 [a0] h R := ACalls.intoN k14 rfl hw
theorem j14 {a0 : AV} {h : AH} {R : AE → AH → Prop} (hw : ∀ n, h.length = n → (∀ e ∈ h, e.lt n = true) → AV.ltL n [a0] = true → AV.bdL [a0] → aw Try.prog n c14 (retA [(.tmp 2)] fun x h' => ∃ y z, h' = y ++ z ∧ y.length = n ∧ (∀ e ∈ y, e.lt n = true) ∧ x.lt n = true ∧ R x y) [a0, .any, .any, .any, .any, .any, .any, .any, .any, .any, .any, .any, .any, .any, .any, .any, .any, .any, .any, .any, .any, .any, .any, .any, .any, .any, .any, .any, .any, .any, .any, .any, .any, .any, .any, .any, .any, .any, .any, .any, .any, .any, .any, .any, .any, .any, .any, .any, .any, .any, .any, .any, .any, .any, .any, .any, .any, .any, .any, .any, .any, .any, .any, .any] (h ++ [])) : ACalls Try.prog 14 [a0] h R := ACalls.intoG k14 rfl hw
theorem rbetween_a {n a b : Int} {h : AH} : ACalls Try.prog 39 [iv n, iv a, iv b] h fun x h' => h' = h ∧ x = .ret (bv (wi n a b)) := by
  refine i39 ?_
  intro N hn hlt hlA hbd
  try simp only [AV.bdL, AV.bd, and_true, true_and] at hbd
  refine w_seq ?_
  refine w_reg ?_
  refine s_val rfl (v_mv lkb) pt6 ?_
  refine s_nil ?_
  refine n_seq ?_
  refine w_seq ?_
  refine w_reg ?_
  refine s_val rfl (v_mv lk0) pt7 ?_
  refine s_val rfl (v_mv lk1) pt8 ?_
  refine s_val rfl (v_geq lk7 lk8) pt9 ?_
  refine s_val rfl (v_mv lk9) pt10 ?_
  first | refine s_splitP gt10 pt10 pt10 (fun hg10 => ?_) (fun hg10 => ?_) | refine s_splitB gt10 pt10 pt10 (fun hg10 => ?_) (fun hg10 => ?_)
  · skip
    refine s_do gt10 ?_
    refine s_val rfl (v_mv lk0) pt11 ?_
    refine s_do gt10 ?_
    refine s_val rfl (v_mv lk2) pt12 ?_
    refine s_do gt10 ?_
    refine s_val rfl (v_leq lk11 lk12) pt13 ?_
    refine s_val rfl (v_pickT lk10 lk13) pt14 ?_
    refine s_val rfl (v_mv lk14) pt6 ?_
    refine s_nil ?_
    refine n_seq ?_
    refine w_rets ?_
    refine w_ret (rs1 (rr_t gt6)) ?_
    refine rt (by first | rfl | (simp only [AV.lt, AV.ltL, Ent.lt, List.all_cons, List.all_nil, Bool.and_true, Bool.and_self, decide_true, chg_lt]; done) | (simp [AV.lt, AV.ltL, Ent.lt, chg_lt, *]; done) | (simp [AV.lt, AV.ltL, Ent.lt, chg_lt, *]; omega)) ?_
    refine bvx ?_; unfold wi; rw [Bool.eq_iff_iff]; simp; omega
  · skip
    refine s_no gt10 pt11 ?_
    refine s_no gt10 pt12 ?_
    refine s_no gt10 pt13 ?_
    refine s_val rfl (v_pickF lk10 lkb) pt14 ?_
    refine s_val rfl (v_mv lk14) pt6 ?_
    refine s_nil ?_
    refine n_seq ?_
    refine w_rets ?_
    refine w_ret (rs1 (rr_t gt6)) ?_
    refine rt (by first | rfl | (simp only [AV.lt, AV.ltL, Ent.lt, List.all_cons, List.all_nil, Bool.and_true, Bool.and_self, decide_true, chg_lt]; done) | (simp [AV.lt, AV.ltL, Ent.lt, chg_lt, *]; done) | (simp [AV.lt, AV.ltL, Ent.lt, chg_lt, *]; omega)) ?_
    refine bvx ?_; unfold wi; rw [Bool.eq_iff_iff]; simp; omega
theorem isLetter_a {n : Int} {h : AH} (h0 : 0 ≤ n) (h1 : n ≤ 255) : ACalls Try.prog 82 [uv n] h fun x h' => h' = h ∧ x = .ret (bv (letB n)) := by
  refine i82 ?_
  intro N hn hlt hlA hbd
  try simp only [AV.bdL, AV.bd, and_true, true_and] at hbd
  refine w_seq ?_
  refine w_reg ?_
  refine s_val rfl (v_mv lkb) pt2 ?_
  refine s_nil ?_
  refine n_seq ?_
  refine w_seq ?_
  refine w_reg ?_
  refine s_val rfl (v_mv lk0) pt3 ?_
  refine s_val rfl (v_cvi64 lk3 (by omega) (by omega)) pt4 ?_
  refine s_callp (mp1 lk4 (mp1 lki (mp1 lki mp0))) (rbetween_a) pt5 ?_
  refine s_val rfl (v_mv lk5) pt6 ?_
  refine s_splitB gt6 pt6 pt6 (fun hg6 => ?_) (fun hg6 => ?_)
  · skip
    refine s_no gt6 pt7 ?_
    refine s_no gt6 pt8 ?_
    refine s_no gt6 pt9 ?_
    refine s_val rfl (v_pickT lk6 lkb) pt10 ?_
    refine s_val rfl (v_mv lk10) pt2 ?_
    refine s_nil ?_
    refine n_seq ?_
    refine w_rets ?_
    refine w_ret (rs1 (rr_t gt2)) ?_
    refine rt (by first | rfl | (simp only [AV.lt, AV.ltL, Ent.lt, List.all_cons, List.all_nil, Bool.and_true, Bool.and_self, decide_true, chg_lt]; done) | (simp [AV.lt, AV.ltL, Ent.lt, chg_lt, *]; done) | (simp [AV.lt, AV.ltL, Ent.lt, chg_lt, *]; omega)) ?_
    refine bvx ?_; unfold wi at *; unfold letB; rw [Bool.eq_iff_iff]; simp at *; omega
  · skip
    refine s_do gt6 ?_
    refine s_val rfl (v_mv lk0) pt7 ?_
    refine s_do gt6 ?_
    refine s_val rfl (v_cvi64 lk7 (by omega) (by omega)) pt8 ?_
    refine s_do gt6 ?_
    refine s_callp (mp1 lk8 (mp1 lki (mp1 lki mp0))) (rbetween_a) pt9 ?_
    refine s_val rfl (v_pickF lk6 lk9) pt10 ?_
    refine s_val rfl (v_mv lk10) pt2 ?_
    refine s_nil ?_
    refine n_seq ?_
    refine w_rets ?_
    refine w_ret (rs1 (rr_t gt2)) ?_
    refine rt (by first | rfl | (simp only [AV.lt, AV.ltL, Ent.lt, List.all_cons, List.all_nil, Bool.and_true, Bool.and_self, decide_true, chg_lt]; done) | (simp [AV.lt, AV.ltL, Ent.lt, chg_lt, *]; done) | (simp [AV.lt, AV.ltL, Ent.lt, chg_lt, *]; omega)) ?_
    refine bvx ?_; unfold wi at *; unfold letB; rw [Bool.eq_iff_iff]; simp at *; omega
theorem isDigit_a {n : Int} {h : AH} (h0 : 0 ≤ n) (h1 : n ≤ 255) : ACalls Try.prog 83 [uv n] h fun x h' => h' = h ∧ x = .ret (bv (digB n)) := by
  refine i83 ?_
  intro N hn hlt hlA hbd
  try simp only [AV.bdL, AV.bd, and_true, true_and] at hbd
  refine w_seq ?_
  refine w_reg ?_
  refine s_val rfl (v_mv lkb) pt2 ?_
  refine s_nil ?_
  refine n_seq ?_
  refine w_seq ?_
  refine w_reg ?_
  refine s_val rfl (v_mv lk0) pt3 ?_
  refine s_val rfl (v_cvi64 lk3 (by omega) (by omega)) pt4 ?_
  refine s_callp (mp1 lk4 (mp1 lki (mp1 lki mp0))) (rbetween_a) pt5 ?_
  refine s_val rfl (v_mv lk5) pt2 ?_
  refine s_nil ?_
  refine n_seq ?_
  refine w_rets ?_
  refine w_ret (rs1 (rr_t gt2)) ?_
  refine rt (by first | rfl | (simp only [AV.lt, AV.ltL, Ent.lt, List.all_cons, List.all_nil, Bool.and_true, Bool.and_self, decide_true, chg_lt]; done) | (simp [AV.lt, AV.ltL, Ent.lt, chg_lt, *]; done) | (simp [AV.lt, AV.ltL, Ent.lt, chg_lt, *]; omega)) ?_
  refine bvx ?_; unfold wi digB; rw [Bool.eq_iff_iff]; simp
theorem byte_bd (s : ByteArray) (k : Nat) : (0 : Int) ≤ ((byteAt s k).toNat : Int) ∧ ((byteAt s k).toNat : Int) ≤ 255 := by
  have := (byteAt s k).toNat_lt
  omega
theorem isPlain_a {s : ByteArray} {h : AH} (hs : s.size ≤ maxLen := by first | assumption | omega) : ACalls Try.prog 66 [sv s] h fun x h' => h' = h ∧ x = .ret (bv (allB plainB s)) := by
  have hm : s.size ≤ 9223372036854775807 := by simpa [maxLen] using hs
  refine i66 ?_
  intro N hn hlt hlA hbd
  try simp only [AV.bdL, AV.bd, and_true, true_and] at hbd
  refine w_seq ?_
  refine w_reg ?_
  refine s_val rfl (v_mv lkb) pt2 ?_
  refine s_nil ?_
  refine n_seq ?_
  refine w_seq ?_
  refine w_seq ?_
  refine w_reg ?_
  refine s_val rfl (v_mv lki) pt3 ?_
  refine s_nil ?_
  refine n_seq ?_
  refine w_block ?_
  refine w_loop (ι := Nat) (fun (k : Nat) => [(3, iv (k : Int)), (2, .any), (4, .any), (5, .any), (6, .any), (7, .any), (8, .any), (9, .any), (10, .any), (11, .any), (12, .any), (13, .any), (14, .any), (15, .any), (16, .any), (17, .any), (18, .any), (19, .any), (20, .any), (21, .any), (22, .any), (23, .any), (24, .any), (25, .any), (26, .any), (27, .any), (28, .any), (29, .any), (30, .any), (31, .any), (32, .any), (33, .any)]) (fun (k : Nat) => []) (fun (k : Nat) => k ≤ s.size ∧ ∀ j (hj : j < s.size), j < k → plainB s[j].toNat = true) (fun (k : Nat) => s.size - k) (0) (by exact ⟨by omega, fun j hj h0 => absurd h0 (by omega)⟩) (by try simp only [setsT, setsE, List.set_cons_zero, List.set_cons_succ]; exact ALe.same (wk1 rfl (wk1 rfl (wka (wk1 (by first | rfl | exact ivx (by omega) | (simp; done)) (wka (wka (wka (wka (wka (wka (wka (wka (wka (wka (wka (wka (wka (wka (wka (wka (wka (wka (wka (wka (wka (wka (wka (wka (wka (wka (wka (wka (wka (wka wk0)))))))))))))))))))))))))))))))))) rfl) ?_
  rintro k hi1
  try simp only [setsT, setsE, List.set_cons_zero, List.set_cons_succ]
  obtain ⟨hk1, hk2⟩ := hi1
  refine w_seq ?_
  refine w_seq ?_
  refine w_reg ?_
  refine s_val rfl (v_mv lk3) pt4 ?_
  refine s_val rfl (v_mv lk0) pt5 ?_
  refine s_val rfl (v_lenS lk5) pt6 ?_
  refine s_val rfl (v_lss lk4 lk6) pt7 ?_
  refine s_nil ?_
  refine n_seq ?_
  first | refine w_cond lk7 (fun hc1 => ?_) (fun hc1 => ?_) | refine w_condB lk7 (fun hc1 => ?_) (fun hc1 => ?_)
  · skip
    have hk : k < s.size := by omega
    have hb := byte_bd s k
    have hbk : byteAt s k = s[k] := byteAt_get hk
    refine w_skip ?_
    refine n_seq ?_
    refine w_seq ?_
    refine w_block ?_
    refine w_seq ?_
    refine w_reg ?_
    refine s_val rfl (v_mv lk0) pt10 ?_
    refine s_val rfl (v_mv lk3) pt11 ?_
    refine s_val rfl (v_ix lk10 lk11 (by omega) (by omega)) pt12 ?_
    refine s_callp (mp1 lk12 mp0) (isLetter_a hb.1 hb.2) pt13 ?_
    refine s_val rfl (v_notB lk13) pt14 ?_
    refine s_val rfl (v_mv lk14) pt15 ?_
    refine s_splitB gt15 pt15 pt15 (fun hg15 => ?_) (fun hg15 => ?_)
    · skip
      refine s_do gt15 ?_
      refine s_val rfl (v_mv lk0) pt16 ?_
      refine s_do gt15 ?_
      refine s_val rfl (v_mv lk3) pt17 ?_
      refine s_do gt15 ?_
      refine s_val rfl (v_ix lk16 lk17 (by omega) (by omega)) pt18 ?_
      refine s_do gt15 ?_
      refine s_callp (mp1 lk18 mp0) (isDigit_a hb.1 hb.2) pt19 ?_
      refine s_do gt15 ?_
      refine s_val rfl (v_notB lk19) pt20 ?_
      refine s_val rfl (v_pickT lk15 lk20) pt21 ?_
      refine s_val rfl (v_mv lk21) pt22 ?_
      refine s_splitB gt22 pt22 pt22 (fun hg22 => ?_) (fun hg22 => ?_)
      · skip
        refine s_do gt22 ?_
        refine s_val rfl (v_mv lk0) pt23 ?_
        refine s_do gt22 ?_
        refine s_val rfl (v_mv lk3) pt24 ?_
        refine s_do gt22 ?_
        refine s_val rfl (v_ix lk23 lk24 (by omega) (by omega)) pt25 ?_
        refine s_do gt22 ?_
        refine s_val rfl (v_neq lk25 lki) pt26 ?_
        refine s_val rfl (v_pickT lk22 lk26) pt27 ?_
        refine s_val rfl (v_mv lk27) pt28 ?_
        first | refine s_splitP gt28 pt28 pt28 (fun hg28 => ?_) (fun hg28 => ?_) | refine s_splitB gt28 pt28 pt28 (fun hg28 => ?_) (fun hg28 => ?_)
        · skip
          refine s_do gt28 ?_
          refine s_val rfl (v_mv lk0) pt29 ?_
          refine s_do gt28 ?_
          refine s_val rfl (v_mv lk3) pt30 ?_
          refine s_do gt28 ?_
          refine s_val rfl (v_ix lk29 lk30 (by omega) (by omega)) pt31 ?_
          refine s_do gt28 ?_
          refine s_val rfl (v_neq lk31 lki) pt32 ?_
          refine s_val rfl (v_pickT lk28 lk32) pt33 ?_
          refine s_nil ?_
          refine n_seq ?_
          first | refine w_cond lk33 (fun hc2 => ?_) (fun hc2 => ?_) | refine w_condB lk33 (fun hc2 => ?_) (fun hc2 => ?_)
          · skip
            refine w_seq ?_
            refine w_reg ?_
            refine s_val rfl (v_mv lkb) pt2 ?_
            refine s_nil ?_
            refine n_seq ?_
            refine w_rets ?_
            refine r_blk ?_
            refine r_thn ?_
            refine r_thn ?_
            refine r_blk ?_
            refine r_thn ?_
            refine w_ret (rs1 (rr_t gt2)) ?_
            refine rt (by first | rfl | (simp only [AV.lt, AV.ltL, Ent.lt, List.all_cons, List.all_nil, Bool.and_true, Bool.and_self, decide_true, chg_lt]; done) | (simp [AV.lt, AV.ltL, Ent.lt, chg_lt, *]; done) | (simp [AV.lt, AV.ltL, Ent.lt, chg_lt, *]; omega)) ?_
            refine bvx ?_; rw [allB_no (k := k) hk (by rw [← hbk]; unfold plainB; simp at *; simp_all)]
          · skip
            refine w_skip ?_
            refine n_blk ?_
            refine n_seq ?_
            refine w_reg ?_
            refine s_val rfl (v_mv lk3) pt8 ?_
            refine s_val rfl (v_add lk8 lki (by omega) (by omega)) pt9 ?_
            refine s_val rfl (v_mv lk9) pt3 ?_
            refine s_nil ?_
            refine n_thn ?_
            refine LoopTo.mk (k + 1) (by omega) (by (try dsimp only); refine ⟨by omega, fun j hj h0 => ?_⟩; rcases Nat.lt_or_ge j k with e | e; exact hk2 j hj e; obtain rfl : j = k := (by omega); rw [← hbk]; unfold plainB; simp_all) (by (try dsimp only); (try simp only [setsT, setsE, List.set_cons_zero, List.set_cons_succ]); exact ALe.same (wk1 rfl (wk1 rfl (wka (wk1 (by first | rfl | exact ivx (by omega) | (simp; done)) (wka (wka (wka (wka (wka (wka (wka (wka (wka (wka (wka (wka (wka (wka (wka (wka (wka (wka (wka (wka (wka (wka (wka (wka (wka (wka (wka (wka (wka (wka wk0)))))))))))))))))))))))))))))))))) rfl)
        · skip
          refine s_no gt28 pt29 ?_
          refine s_no gt28 pt30 ?_
          refine s_no gt28 pt31 ?_
          refine s_no gt28 pt32 ?_
          refine s_val rfl (v_pickF lk28 lkb) pt33 ?_
          refine s_nil ?_
          refine n_seq ?_
          refine w_condF lk33 ?_
          refine w_skip ?_
          refine n_blk ?_
          refine n_seq ?_
          refine w_reg ?_
          refine s_val rfl (v_mv lk3) pt8 ?_
          refine s_val rfl (v_add lk8 lki (by omega) (by omega)) pt9 ?_
          refine s_val rfl (v_mv lk9) pt3 ?_
          refine s_nil ?_
          refine n_thn ?_
          refine LoopTo.mk (k + 1) (by omega) (by (try dsimp only); refine ⟨by omega, fun j hj h0 => ?_⟩; rcases Nat.lt_or_ge j k with e | e; exact hk2 j hj e; obtain rfl : j = k := (by omega); rw [← hbk]; unfold plainB; simp_all) (by (try dsimp only); (try simp only [setsT, setsE, List.set_cons_zero, List.set_cons_succ]); exact ALe.same (wk1 rfl (wk1 rfl (wka (wk1 (by first | rfl | exact ivx (by omega) | (simp; done)) (wka (wka (wka (wka (wka (wka (wka (wka (wka (wka (wka (wka (wka (wka (wka (wka (wka (wka (wka (wka (wka (wka (wka (wka (wka (wka (wka (wka (wka (wka wk0)))))))))))))))))))))))))))))))))) rfl)
      · skip
        refine s_no gt22 pt23 ?_
        refine s_no gt22 pt24 ?_
        refine s_no gt22 pt25 ?_
        refine s_no gt22 pt26 ?_
        refine s_val rfl (v_pickF lk22 lkb) pt27 ?_
        refine s_val rfl (v_mv lk27) pt28 ?_
        refine s_no gt28 pt29 ?_
        refine s_no gt28 pt30 ?_
        refine s_no gt28 pt31 ?_
        refine s_no gt28 pt32 ?_
        refine s_val rfl (v_pickF lk28 lkb) pt33 ?_
        refine s_nil ?_
        refine n_seq ?_
        refine w_condF lk33 ?_
        refine w_skip ?_
        refine n_blk ?_
        refine n_seq ?_
        refine w_reg ?_
        refine s_val rfl (v_mv lk3) pt8 ?_
        refine s_val rfl (v_add lk8 lki (by omega) (by omega)) pt9 ?_
        refine s_val rfl (v_mv lk9) pt3 ?_
        refine s_nil ?_
        refine n_thn ?_
        refine LoopTo.mk (k + 1) (by omega) (by (try dsimp only); refine ⟨by omega, fun j hj h0 => ?_⟩; rcases Nat.lt_or_ge j k with e | e; exact hk2 j hj e; obtain rfl : j = k := (by omega); rw [← hbk]; unfold plainB; simp_all) (by (try dsimp only); (try simp only [setsT, setsE, List.set_cons_zero, List.set_cons_succ]); exact ALe.same (wk1 rfl (wk1 rfl (wka (wk1 (by first | rfl | exact ivx (by omega) | (simp; done)) (wka (wka (wka (wka (wka (wka (wka (wka (wka (wka (wka (wka (wka (wka (wka (wka (wka (wka (wka (wka (wka (wka (wka (wka (wka (wka (wka (wka (wka (wka wk0)))))))))))))))))))))))))))))))))) rfl)
    · skip
      refine s_no gt15 pt16 ?_
      refine s_no gt15 pt17 ?_
      refine s_no gt15 pt18 ?_
      refine s_no gt15 pt19 ?_
      refine s_no gt15 pt20 ?_
      refine s_val rfl (v_pickF lk15 lkb) pt21 ?_
      refine s_val rfl (v_mv lk21) pt22 ?_
      refine s_no gt22 pt23 ?_
      refine s_no gt22 pt24 ?_
      refine s_no gt22 pt25 ?_
      refine s_no gt22 pt26 ?_
      refine s_val rfl (v_pickF lk22 lkb) pt27 ?_
      refine s_val rfl (v_mv lk27) pt28 ?_
      refine s_no gt28 pt29 ?_
      refine s_no gt28 pt30 ?_
      refine s_no gt28 pt31 ?_
      refine s_no gt28 pt32 ?_
      refine s_val rfl (v_pickF lk28 lkb) pt33 ?_
      refine s_nil ?_
      refine n_seq ?_
      refine w_condF lk33 ?_
      refine w_skip ?_
      refine n_blk ?_
      refine n_seq ?_
      refine w_reg ?_
      refine s_val rfl (v_mv lk3) pt8 ?_
      refine s_val rfl (v_add lk8 lki (by omega) (by omega)) pt9 ?_
      refine s_val rfl (v_mv lk9) pt3 ?_
      refine s_nil ?_
      refine n_thn ?_
      refine LoopTo.mk (k + 1) (by omega) (by (try dsimp only); refine ⟨by omega, fun j hj h0 => ?_⟩; rcases Nat.lt_or_ge j k with e | e; exact hk2 j hj e; obtain rfl : j = k := (by omega); rw [← hbk]; unfold plainB; simp_all) (by (try dsimp only); (try simp only [setsT, setsE, List.set_cons_zero, List.set_cons_succ]); exact ALe.same (wk1 rfl (wk1 rfl (wka (wk1 (by first | rfl | exact ivx (by omega) | (simp; done)) (wka (wka (wka (wka (wka (wka (wka (wka (wka (wka (wka (wka (wka (wka (wka (wka (wka (wka (wka (wka (wka (wka (wka (wka (wka (wka (wka (wka (wka (wka wk0)))))))))))))))))))))))))))))))))) rfl)
  · skip
    refine w_exit ?_
    refine x_thn ?_
    refine x_thn ?_
    refine x_blk ?_
    refine n_seq ?_
    refine w_seq ?_
    refine w_reg ?_
    refine s_val rfl (v_mv lkb) pt2 ?_
    refine s_nil ?_
    refine n_seq ?_
    refine w_rets ?_
    refine w_ret (rs1 (rr_t gt2)) ?_
    refine rt (by first | rfl | (simp only [AV.lt, AV.ltL, Ent.lt, List.all_cons, List.all_nil, Bool.and_true, Bool.and_self, decide_true, chg_lt]; done) | (simp [AV.lt, AV.ltL, Ent.lt, chg_lt, *]; done) | (simp [AV.lt, AV.ltL, Ent.lt, chg_lt, *]; omega)) ?_
    refine bvx ?_; rw [allB_yes fun j hj => hk2 j hj (by omega)]
theorem num_ref1 {y m d : Int} (hm : 3 ≤ m) (hm2 : m ≤ 12) : y / 400 * 146097 + y % 400 * 365 + y % 400 / 4 - y % 400 / 100 + (153 * (m - 3) + 2) / 5 + d - 1 - 719468 = num y m d := by
  have := lp_iff y
  unfold num cum bef; rw [if_neg (by omega), this]; split <;> omega
theorem num_ref2 {y m d : Int} (hm : 1 ≤ m) (hm2 : m < 3) : (y - 1) / 400 * 146097 + (y - 1) % 400 * 365 + (y - 1) % 400 / 4 - (y - 1) % 400 / 100 + (153 * (m - 3 + 12) + 2) / 5 + d - 1 - 719468 = num y m d := by
  unfold num cum bef; rw [if_pos (by omega)]; omega
theorem rdaysOf_a {y m d : Int} {h : AH} (y0 : 1 ≤ y) (y1 : y ≤ 20000) (m0 : 1 ≤ m) (m1 : m ≤ 12) (d0 : -1000 ≤ d) (d1 : d ≤ 1000) : ACalls Try.prog 58 [.agg [iv y, iv m, iv d]] h fun x h' => h' = h ∧ x = .ret (iv (num y m d)) := by
  refine i58 ?_
  intro N hn hlt hlA hbd
  try simp only [AV.bdL, AV.bd, and_true, true_and] at hbd
  refine w_seq ?_
  refine w_reg ?_
  refine s_eff rfl rfl (e_box (cvl lk0 rfl) rfl (hl0 hn) ha0) pt1 ?_
  refine s_val rfl (v_mv lki) pt2 ?_
  refine s_nil ?_
  refine n_seq ?_
  refine w_seq ?_
  refine w_drwE ?_
  refine d_val rfl (v_fap0 lk1) pt6 ?_
  refine d_val rfl (v_loadp lk6 (hga hn rfl) gt0) pt7 ?_
  refine d_val rfl (v_fap0 lk1) pt8 ?_
  refine d_val rfl (v_loadp lk8 (hga hn rfl) gt1) pt9 ?_
  refine d_val rfl (v_sub lk9 lki (by omega) (by omega)) pt10 ?_
  refine d_val rfl (v_mv lk7) pt3 ?_
  refine d_val rfl (v_mv lk10) pt4 ?_
  refine d_nil ?_
  refine e_nil ?_
  refine s_nil ?_
  refine n_seq ?_
  refine w_seq ?_
  refine w_seq ?_
  refine w_reg ?_
  refine s_val rfl (v_mv lk4) pt11 ?_
  refine s_val rfl (v_lss lk11 lki) pt12 ?_
  refine s_nil ?_
  refine n_seq ?_
  first | refine w_cond lk12 (fun hc1 => ?_) (fun hc1 => ?_) | refine w_condB lk12 (fun hc1 => ?_) (fun hc1 => ?_)
  · skip
    refine w_seq ?_
    refine w_reg ?_
    refine s_val rfl (v_mv lk3) pt13 ?_
    refine s_val rfl (v_sub lk13 lki (by omega) (by omega)) pt14 ?_
    refine s_val rfl (v_mv lk14) pt3 ?_
    refine s_nil ?_
    refine n_seq ?_
    refine w_reg ?_
    refine s_val rfl (v_mv lk4) pt15 ?_
    refine s_val rfl (v_add lk15 lki (by omega) (by omega)) pt16 ?_
    refine s_val rfl (v_mv lk16) pt4 ?_
    refine s_nil ?_
    refine n_seq ?_
    refine w_seq ?_
    refine w_reg ?_
    refine s_val rfl (v_mv lk3) pt17 ?_
    refine s_val rfl (v_quo lk17 lki (by omega) (by omega) (by omega)) pt18 ?_
    refine s_val rfl (v_mul lk18 lki (by omega) (by omega)) pt19 ?_
    refine s_val rfl (v_mv lk3) pt20 ?_
    refine s_val rfl (v_rem lk20 lki (by omega) (by omega)) pt21 ?_
    refine s_val rfl (v_mul lk21 lki (by omega) (by omega)) pt22 ?_
    refine s_val rfl (v_add lk19 lk22 (by omega) (by omega)) pt23 ?_
    refine s_val rfl (v_mv lk3) pt24 ?_
    refine s_val rfl (v_rem lk24 lki (by omega) (by omega)) pt25 ?_
    refine s_val rfl (v_quo lk25 lki (by omega) (by omega) (by omega)) pt26 ?_
    refine s_val rfl (v_add lk23 lk26 (by omega) (by omega)) pt27 ?_
    refine s_val rfl (v_mv lk3) pt28 ?_
    refine s_val rfl (v_rem lk28 lki (by omega) (by omega)) pt29 ?_
    refine s_val rfl (v_quo lk29 lki (by omega) (by omega) (by omega)) pt30 ?_
    refine s_val rfl (v_sub lk27 lk30 (by omega) (by omega)) pt31 ?_
    refine s_val rfl (v_mv lk31) pt5 ?_
    refine s_nil ?_
    refine n_seq ?_
    refine w_seq ?_
    refine w_reg ?_
    refine s_val rfl (v_mv lk5) pt32 ?_
    refine s_val rfl (v_mv lk4) pt33 ?_
    refine s_val rfl (v_mul lki lk33 (by omega) (by omega)) pt34 ?_
    refine s_val rfl (v_add lk34 lki (by omega) (by omega)) pt35 ?_
    refine s_val rfl (v_quo lk35 lki (by omega) (by omega) (by omega)) pt36 ?_
    refine s_val rfl (v_add lk32 lk36 (by omega) (by omega)) pt37 ?_
    refine s_val rfl (v_fap0 lk1) pt38 ?_
    refine s_val rfl (v_loadp lk38 (hga hn rfl) gt2) pt39 ?_
    refine s_val rfl (v_add lk37 lk39 (by omega) (by omega)) pt40 ?_
    refine s_val rfl (v_sub lk40 lki (by omega) (by omega)) pt41 ?_
    refine s_val rfl (v_sub lk41 lki (by omega) (by omega)) pt42 ?_
    refine s_val rfl (v_mv lk42) pt2 ?_
    refine s_nil ?_
    refine n_seq ?_
    refine w_rets ?_
    refine w_ret (rs1 (rr_t gt2)) ?_
    refine rt (by first | rfl | (simp only [AV.lt, AV.ltL, Ent.lt, List.all_cons, List.all_nil, Bool.and_true, Bool.and_self, decide_true, chg_lt]; done) | (simp [AV.lt, AV.ltL, Ent.lt, chg_lt, *]; done) | (simp [AV.lt, AV.ltL, Ent.lt, chg_lt, *]; omega)) ?_
    refine ivx ?_; rw [← num_ref2 m0 (by omega)]
  · skip
    refine w_skip ?_
    refine n_seq ?_
    refine w_seq ?_
    refine w_reg ?_
    refine s_val rfl (v_mv lk3) pt17 ?_
    refine s_val rfl (v_quo lk17 lki (by omega) (by omega) (by omega)) pt18 ?_
    refine s_val rfl (v_mul lk18 lki (by omega) (by omega)) pt19 ?_
    refine s_val rfl (v_mv lk3) pt20 ?_
    refine s_val rfl (v_rem lk20 lki (by omega) (by omega)) pt21 ?_
    refine s_val rfl (v_mul lk21 lki (by omega) (by omega)) pt22 ?_
    refine s_val rfl (v_add lk19 lk22 (by omega) (by omega)) pt23 ?_
    refine s_val rfl (v_mv lk3) pt24 ?_
    refine s_val rfl (v_rem lk24 lki (by omega) (by omega)) pt25 ?_
    refine s_val rfl (v_quo lk25 lki (by omega) (by omega) (by omega)) pt26 ?_
    refine s_val rfl (v_add lk23 lk26 (by omega) (by omega)) pt27 ?_
    refine s_val rfl (v_mv lk3) pt28 ?_
    refine s_val rfl (v_rem lk28 lki (by omega) (by omega)) pt29 ?_
    refine s_val rfl (v_quo lk29 lki (by omega) (by omega) (by omega)) pt30 ?_
    refine s_val rfl (v_sub lk27 lk30 (by omega) (by omega)) pt31 ?_
    refine s_val rfl (v_mv lk31) pt5 ?_
    refine s_nil ?_
    refine n_seq ?_
    refine w_seq ?_
    refine w_reg ?_
    refine s_val rfl (v_mv lk5) pt32 ?_
    refine s_val rfl (v_mv lk4) pt33 ?_
    refine s_val rfl (v_mul lki lk33 (by omega) (by omega)) pt34 ?_
    refine s_val rfl (v_add lk34 lki (by omega) (by omega)) pt35 ?_
    refine s_val rfl (v_quo lk35 lki (by omega) (by omega) (by omega)) pt36 ?_
    refine s_val rfl (v_add lk32 lk36 (by omega) (by omega)) pt37 ?_
    refine s_val rfl (v_fap0 lk1) pt38 ?_
    refine s_val rfl (v_loadp lk38 (hga hn rfl) gt2) pt39 ?_
    refine s_val rfl (v_add lk37 lk39 (by omega) (by omega)) pt40 ?_
    refine s_val rfl (v_sub lk40 lki (by omega) (by omega)) pt41 ?_
    refine s_val rfl (v_sub lk41 lki (by omega) (by omega)) pt42 ?_
    refine s_val rfl (v_mv lk42) pt2 ?_
    refine s_nil ?_
    refine n_seq ?_
    refine w_rets ?_
    refine w_ret (rs1 (rr_t gt2)) ?_
    refine rt (by first | rfl | (simp only [AV.lt, AV.ltL, Ent.lt, List.all_cons, List.all_nil, Bool.and_true, Bool.and_self, decide_true, chg_lt]; done) | (simp [AV.lt, AV.ltL, Ent.lt, chg_lt, *]; done) | (simp [AV.lt, AV.ltL, Ent.lt, chg_lt, *]; omega)) ?_
    refine ivx ?_; rw [← num_ref1 (by omega) m1]
theorem rfirst_a {h : AH} : ACalls Try.prog 53 [] h fun x h' => h' = h ∧ x = .ret (iv (-719162)) := by
  refine i53 ?_
  intro N hn hlt hlA hbd
  try simp only [AV.bdL, AV.bd, and_true, true_and] at hbd
  refine w_seq ?_
  refine w_reg ?_
  refine s_val rfl (v_mv lki) pt0 ?_
  refine s_nil ?_
  refine n_seq ?_
  refine w_seq ?_
  refine w_reg ?_
  refine s_val rfl (v_build (ARefA_FirstDay_2 (cvl lki rfl) rfl (cvl lki rfl) rfl (cvl lki rfl) rfl)) pt1 ?_
  refine s_callp (mp1 lk1 mp0) (rdaysOf_a (by first | assumption | omega) (by first | assumption | omega) (by first | assumption | omega) (by first | assumption | omega) (by first | assumption | omega) (by first | assumption | omega)) pt2 ?_
  refine s_val rfl (v_mv lk2) pt0 ?_
  refine s_nil ?_
  refine n_seq ?_
  refine w_rets ?_
  refine w_ret (rs1 (rr_t gt0)) ?_
  refine rt (by first | rfl | (simp only [AV.lt, AV.ltL, Ent.lt, List.all_cons, List.all_nil, Bool.and_true, Bool.and_self, decide_true, chg_lt]; done) | (simp [AV.lt, AV.ltL, Ent.lt, chg_lt, *]; done) | (simp [AV.lt, AV.ltL, Ent.lt, chg_lt, *]; omega)) ?_
  exact ivx (by decide)
theorem rlast_a {h : AH} : ACalls Try.prog 54 [] h fun x h' => h' = h ∧ x = .ret (iv 2932896) := by
  refine i54 ?_
  intro N hn hlt hlA hbd
  try simp only [AV.bdL, AV.bd, and_true, true_and] at hbd
  refine w_seq ?_
  refine w_reg ?_
  refine s_val rfl (v_mv lki) pt0 ?_
  refine s_nil ?_
  refine n_seq ?_
  refine w_seq ?_
  refine w_reg ?_
  refine s_val rfl (v_build (ARefA_LastDay_2 (cvl lki rfl) rfl (cvl lki rfl) rfl (cvl lki rfl) rfl)) pt1 ?_
  refine s_callp (mp1 lk1 mp0) (rdaysOf_a (by first | assumption | omega) (by first | assumption | omega) (by first | assumption | omega) (by first | assumption | omega) (by first | assumption | omega) (by first | assumption | omega)) pt2 ?_
  refine s_val rfl (v_mv lk2) pt0 ?_
  refine s_nil ?_
  refine n_seq ?_
  refine w_rets ?_
  refine w_ret (rs1 (rr_t gt0)) ?_
  refine rt (by first | rfl | (simp only [AV.lt, AV.ltL, Ent.lt, List.all_cons, List.all_nil, Bool.and_true, Bool.and_self, decide_true, chg_lt]; done) | (simp [AV.lt, AV.ltL, Ent.lt, chg_lt, *]; done) | (simp [AV.lt, AV.ltL, Ent.lt, chg_lt, *]; omega)) ?_
  exact ivx (by decide)
theorem rleastAt_a {h : AH} : ACalls Try.prog 27 [] h fun x h' => h' = h ∧ x = .ret (iv (-62135596800)) := by
  refine i27 ?_
  intro N hn hlt hlA hbd
  try simp only [AV.bdL, AV.bd, and_true, true_and] at hbd
  refine w_seq ?_
  refine w_reg ?_
  refine s_val rfl (v_mv lki) pt0 ?_
  refine s_nil ?_
  refine n_seq ?_
  refine w_seq ?_
  refine w_reg ?_
  refine s_callp mp0 (rfirst_a) pt1 ?_
  refine s_val rfl (v_mul lk1 lki (by omega) (by omega)) pt2 ?_
  refine s_val rfl (v_mv lk2) pt0 ?_
  refine s_nil ?_
  refine n_seq ?_
  refine w_rets ?_
  refine w_ret (rs1 (rr_t gt0)) ?_
  refine rt (by first | rfl | (simp only [AV.lt, AV.ltL, Ent.lt, List.all_cons, List.all_nil, Bool.and_true, Bool.and_self, decide_true, chg_lt]; done) | (simp [AV.lt, AV.ltL, Ent.lt, chg_lt, *]; done) | (simp [AV.lt, AV.ltL, Ent.lt, chg_lt, *]; omega)) ?_
  rfl
theorem rmostAt_a {h : AH} : ACalls Try.prog 28 [] h fun x h' => h' = h ∧ x = .ret (iv 253402300799) := by
  refine i28 ?_
  intro N hn hlt hlA hbd
  try simp only [AV.bdL, AV.bd, and_true, true_and] at hbd
  refine w_seq ?_
  refine w_reg ?_
  refine s_val rfl (v_mv lki) pt0 ?_
  refine s_nil ?_
  refine n_seq ?_
  refine w_seq ?_
  refine w_reg ?_
  refine s_callp mp0 (rlast_a) pt1 ?_
  refine s_val rfl (v_mul lk1 lki (by omega) (by omega)) pt2 ?_
  refine s_val rfl (v_add lk2 lki (by omega) (by omega)) pt3 ?_
  refine s_val rfl (v_mv lk3) pt0 ?_
  refine s_nil ?_
  refine n_seq ?_
  refine w_rets ?_
  refine w_ret (rs1 (rr_t gt0)) ?_
  refine rt (by first | rfl | (simp only [AV.lt, AV.ltL, Ent.lt, List.all_cons, List.all_nil, Bool.and_true, Bool.and_self, decide_true, chg_lt]; done) | (simp [AV.lt, AV.ltL, Ent.lt, chg_lt, *]; done) | (simp [AV.lt, AV.ltL, Ent.lt, chg_lt, *]; omega)) ?_
  rfl
theorem rcheckLocal_a {a b : Int} {s : ByteArray} {h : AH} (hs : s.size ≤ maxLen := by first | assumption | omega) : ACalls Try.prog 38 [.agg [iv a, iv b, sv s]] h fun x h' => h' = h ∧ x = .ret (iv (locE (a, b, s))) := by
  refine i38 ?_
  intro N hn hlt hlA hbd
  try simp only [AV.bdL, AV.bd, and_true, true_and] at hbd
  refine w_seq ?_
  refine w_reg ?_
  refine s_eff rfl rfl (e_box (cvl lk0 rfl) rfl (hl0 hn) ha0) pt1 ?_
  refine s_val rfl (v_mv lki) pt2 ?_
  refine s_nil ?_
  refine n_seq ?_
  refine w_seq ?_
  refine w_seq ?_
  refine w_reg ?_
  refine s_val rfl (v_fap0 lk1) pt3 ?_
  refine s_val rfl (v_loadp lk3 (hga hn rfl) gt0) pt4 ?_
  refine s_callp (mp1 lk4 (mp1 lki (mp1 lki mp0))) (rbetween_a) pt5 ?_
  refine s_val rfl (v_notB lk5) pt6 ?_
  refine s_val rfl (v_mv lk6) pt7 ?_
  refine s_splitB gt7 pt7 pt7 (fun hg7 => ?_) (fun hg7 => ?_)
  · skip
    refine s_no gt7 pt8 ?_
    refine s_no gt7 pt9 ?_
    refine s_no gt7 pt10 ?_
    refine s_no gt7 pt11 ?_
    refine s_val rfl (v_pickT lk7 lkb) pt12 ?_
    refine s_nil ?_
    refine n_seq ?_
    refine w_condT lk12 ?_
    refine w_seq ?_
    refine w_reg ?_
    refine s_val rfl (v_mv lki) pt2 ?_
    refine s_nil ?_
    refine n_seq ?_
    refine w_rets ?_
    refine r_thn ?_
    refine w_ret (rs1 (rr_t gt2)) ?_
    refine rt (by first | rfl | (simp only [AV.lt, AV.ltL, Ent.lt, List.all_cons, List.all_nil, Bool.and_true, Bool.and_self, decide_true, chg_lt]; done) | (simp [AV.lt, AV.ltL, Ent.lt, chg_lt, *]; done) | (simp [AV.lt, AV.ltL, Ent.lt, chg_lt, *]; omega)) ?_
    refine ivx ?_; unfold locE; simp_all [wi]; try omega
  · skip
    refine s_do gt7 ?_
    refine s_val rfl (v_fap0 lk1) pt8 ?_
    refine s_do gt7 ?_
    refine s_val rfl (v_loadp lk8 (hga hn rfl) gt1) pt9 ?_
    refine s_do gt7 ?_
    refine s_callp (mp1 lk9 (mp1 lki (mp1 lki mp0))) (rbetween_a) pt10 ?_
    refine s_do gt7 ?_
    refine s_val rfl (v_notB lk10) pt11 ?_
    refine s_val rfl (v_pickF lk7 lk11) pt12 ?_
    refine s_nil ?_
    refine n_seq ?_
    refine w_condB lk12 (fun hc1 => ?_) (fun hc1 => ?_)
    · skip
      refine w_seq ?_
      refine w_reg ?_
      refine s_val rfl (v_mv lki) pt2 ?_
      refine s_nil ?_
      refine n_seq ?_
      refine w_rets ?_
      refine r_thn ?_
      refine w_ret (rs1 (rr_t gt2)) ?_
      refine rt (by first | rfl | (simp only [AV.lt, AV.ltL, Ent.lt, List.all_cons, List.all_nil, Bool.and_true, Bool.and_self, decide_true, chg_lt]; done) | (simp [AV.lt, AV.ltL, Ent.lt, chg_lt, *]; done) | (simp [AV.lt, AV.ltL, Ent.lt, chg_lt, *]; omega)) ?_
      refine ivx ?_; unfold locE; simp_all [wi]; try omega
    · skip
      refine w_skip ?_
      refine n_seq ?_
      refine w_seq ?_
      refine w_seq ?_
      refine w_reg ?_
      refine s_val rfl (v_fap0 lk1) pt13 ?_
      refine s_val rfl (v_loadp lk13 (hga hn rfl) gt2) pt14 ?_
      refine s_val rfl (v_eqlE lk14) pt15 ?_
      refine s_val rfl (v_mv lk15) pt16 ?_
      first | refine s_splitP gt16 pt16 pt16 (fun hg16 => ?_) (fun hg16 => ?_) | refine s_splitB gt16 pt16 pt16 (fun hg16 => ?_) (fun hg16 => ?_)
      · skip
        refine s_no gt16 pt17 ?_
        refine s_no gt16 pt18 ?_
        refine s_no gt16 pt19 ?_
        refine s_no gt16 pt20 ?_
        refine s_val rfl (v_pickT lk16 lkb) pt21 ?_
        refine s_val rfl (v_mv lk21) pt22 ?_
        refine s_no gt22 pt23 ?_
        refine s_no gt22 pt24 ?_
        refine s_no gt22 pt25 ?_
        refine s_no gt22 pt26 ?_
        refine s_val rfl (v_pickT lk22 lkb) pt27 ?_
        refine s_nil ?_
        refine n_seq ?_
        refine w_condT lk27 ?_
        refine w_seq ?_
        refine w_reg ?_
        refine s_val rfl (v_mv lki) pt2 ?_
        refine s_nil ?_
        refine n_seq ?_
        refine w_rets ?_
        refine r_thn ?_
        refine w_ret (rs1 (rr_t gt2)) ?_
        refine rt (by first | rfl | (simp only [AV.lt, AV.ltL, Ent.lt, List.all_cons, List.all_nil, Bool.and_true, Bool.and_self, decide_true, chg_lt]; done) | (simp [AV.lt, AV.ltL, Ent.lt, chg_lt, *]; done) | (simp [AV.lt, AV.ltL, Ent.lt, chg_lt, *]; omega)) ?_
        refine ivx ?_; unfold locE; simp_all [wi]; try omega
      · skip
        refine s_do gt16 ?_
        refine s_val rfl (v_fap0 lk1) pt17 ?_
        refine s_do gt16 ?_
        refine s_val rfl (v_loadp lk17 (hga hn rfl) gt2) pt18 ?_
        refine s_do gt16 ?_
        refine s_val rfl (v_lenS lk18) pt19 ?_
        refine s_do gt16 ?_
        refine s_val rfl (v_gtr lk19 lki) pt20 ?_
        refine s_val rfl (v_pickF lk16 lk20) pt21 ?_
        refine s_val rfl (v_mv lk21) pt22 ?_
        first | refine s_splitP gt22 pt22 pt22 (fun hg22 => ?_) (fun hg22 => ?_) | refine s_splitB gt22 pt22 pt22 (fun hg22 => ?_) (fun hg22 => ?_)
        · skip
          refine s_no gt22 pt23 ?_
          refine s_no gt22 pt24 ?_
          refine s_no gt22 pt25 ?_
          refine s_no gt22 pt26 ?_
          refine s_val rfl (v_pickT lk22 lkb) pt27 ?_
          refine s_nil ?_
          refine n_seq ?_
          refine w_condT lk27 ?_
          refine w_seq ?_
          refine w_reg ?_
          refine s_val rfl (v_mv lki) pt2 ?_
          refine s_nil ?_
          refine n_seq ?_
          refine w_rets ?_
          refine r_thn ?_
          refine w_ret (rs1 (rr_t gt2)) ?_
          refine rt (by first | rfl | (simp only [AV.lt, AV.ltL, Ent.lt, List.all_cons, List.all_nil, Bool.and_true, Bool.and_self, decide_true, chg_lt]; done) | (simp [AV.lt, AV.ltL, Ent.lt, chg_lt, *]; done) | (simp [AV.lt, AV.ltL, Ent.lt, chg_lt, *]; omega)) ?_
          refine ivx ?_; unfold locE; simp_all [wi]; try omega
        · skip
          refine s_do gt22 ?_
          refine s_val rfl (v_fap0 lk1) pt23 ?_
          refine s_do gt22 ?_
          refine s_val rfl (v_loadp lk23 (hga hn rfl) gt2) pt24 ?_
          refine s_do gt22 ?_
          refine s_callp (mp1 lk24 mp0) (isPlain_a) pt25 ?_
          refine s_do gt22 ?_
          refine s_val rfl (v_notB lk25) pt26 ?_
          refine s_val rfl (v_pickF lk22 lk26) pt27 ?_
          refine s_nil ?_
          refine n_seq ?_
          refine w_condB lk27 (fun hc2 => ?_) (fun hc2 => ?_)
          · skip
            refine w_seq ?_
            refine w_reg ?_
            refine s_val rfl (v_mv lki) pt2 ?_
            refine s_nil ?_
            refine n_seq ?_
            refine w_rets ?_
            refine r_thn ?_
            refine w_ret (rs1 (rr_t gt2)) ?_
            refine rt (by first | rfl | (simp only [AV.lt, AV.ltL, Ent.lt, List.all_cons, List.all_nil, Bool.and_true, Bool.and_self, decide_true, chg_lt]; done) | (simp [AV.lt, AV.ltL, Ent.lt, chg_lt, *]; done) | (simp [AV.lt, AV.ltL, Ent.lt, chg_lt, *]; omega)) ?_
            refine ivx ?_; unfold locE; simp_all [wi]; try omega
          · skip
            refine w_skip ?_
            refine n_seq ?_
            refine w_seq ?_
            refine w_reg ?_
            refine s_val rfl (v_mv lki) pt2 ?_
            refine s_nil ?_
            refine n_seq ?_
            refine w_rets ?_
            refine w_ret (rs1 (rr_t gt2)) ?_
            refine rt (by first | rfl | (simp only [AV.lt, AV.ltL, Ent.lt, List.all_cons, List.all_nil, Bool.and_true, Bool.and_self, decide_true, chg_lt]; done) | (simp [AV.lt, AV.ltL, Ent.lt, chg_lt, *]; done) | (simp [AV.lt, AV.ltL, Ent.lt, chg_lt, *]; omega)) ?_
            refine ivx ?_; unfold locE; simp_all [wi]; try omega
theorem rcheck_a {a b : Int} {c : ByteArray} {l : List Chg} {full : Bool} {h : AH} (hs : c.size ≤ maxLen) (hl : ∀ x ∈ l, x.2.2.2.size ≤ maxLen) :
    ACalls Try.prog 14 [.agg [iv a, iv b, sv c, .sl l.length 4 full (rows chgC l)]] h fun x h' => h' = h ∧ x = .ret (iv (checkT ((a, b, c), l))) := by
  refine i14 ?_
  intro N hn hlt hlA hbd
  try simp only [AV.bdL, AV.bd, and_true, true_and] at hbd
  refine w_seq ?_
  refine w_reg ?_
  refine s_eff rfl rfl (e_box (cvl lk0 rfl) rfl (hl0 hn) ha0) pt1 ?_
  refine s_val rfl (v_mv lki) pt2 ?_
  refine s_nil ?_
  refine n_seq ?_
  refine w_seq ?_
  refine w_seq ?_
  refine w_reg ?_
  refine s_val rfl (v_fap0 lk1) pt8 ?_
  refine s_val rfl (v_loadp lk8 (hga hn rfl) gt3) pt9 ?_
  refine s_val rfl (v_lenL lk9) pt10 ?_
  refine s_val rfl (v_gtr lk10 lki) pt11 ?_
  refine s_nil ?_
  refine n_seq ?_
  first | refine w_cond lk11 (fun hc1 => ?_) (fun hc1 => ?_) | refine w_condB lk11 (fun hc1 => ?_) (fun hc1 => ?_)
  · skip
    refine w_seq ?_
    refine w_reg ?_
    refine s_val rfl (v_mv lki) pt2 ?_
    refine s_nil ?_
    refine n_seq ?_
    refine w_rets ?_
    refine r_thn ?_
    refine w_ret (rs1 (rr_t gt2)) ?_
    refine rt (by first | rfl | (simp only [AV.lt, AV.ltL, Ent.lt, List.all_cons, List.all_nil, Bool.and_true, Bool.and_self, decide_true, chg_lt]; done) | (simp [AV.lt, AV.ltL, Ent.lt, chg_lt, *]; done) | (simp [AV.lt, AV.ltL, Ent.lt, chg_lt, *]; omega)) ?_
    refine ivx ?_; rw [checkT, if_pos (by simp only; omega)]
  · skip
    refine w_skip ?_
    refine n_seq ?_
    refine w_seq ?_
    refine w_reg ?_
    refine s_val rfl (v_fap0 lk1) pt12 ?_
    refine s_val rfl (v_loadpA lk12 (hga hn rfl) ARefA_tk0_3 rfl) pt13 ?_
    refine s_callp (mp1 lk13 mp0) (rcheckLocal_a) pt14 ?_
    refine s_val rfl (v_mv lk14) pt3 ?_
    refine s_nil ?_
    refine n_seq ?_
    refine w_seq ?_
    refine w_seq ?_
    refine w_reg ?_
    refine s_val rfl (v_mv lk3) pt15 ?_
    refine s_val rfl (v_neq lk15 lki) pt16 ?_
    refine s_nil ?_
    refine n_seq ?_
    first | refine w_cond lk16 (fun hc2 => ?_) (fun hc2 => ?_) | refine w_condB lk16 (fun hc2 => ?_) (fun hc2 => ?_)
    · skip
      refine w_seq ?_
      refine w_reg ?_
      refine s_val rfl (v_mv lk3) pt17 ?_
      refine s_val rfl (v_mv lk17) pt2 ?_
      refine s_nil ?_
      refine n_seq ?_
      refine w_rets ?_
      refine r_thn ?_
      refine w_ret (rs1 (rr_t gt2)) ?_
      refine rt (by first | rfl | (simp only [AV.lt, AV.ltL, Ent.lt, List.all_cons, List.all_nil, Bool.and_true, Bool.and_self, decide_true, chg_lt]; done) | (simp [AV.lt, AV.ltL, Ent.lt, chg_lt, *]; done) | (simp [AV.lt, AV.ltL, Ent.lt, chg_lt, *]; omega)) ?_
      refine ivx ?_; rw [checkT, if_neg (by simp only; omega), if_pos hc2]
    · skip
      refine w_skip ?_
      refine n_seq ?_
      have hE : checkT ((a, b, c), l) = chk (-62135596801) (a, b, c) l := by rw [checkT, if_neg (by simp only; omega), if_neg (by simpa using hc2)]
      refine w_seq ?_
      refine w_reg ?_
      refine s_val rfl (v_fap0 lk1) pt18 ?_
      refine s_val rfl (v_loadpA lk18 (hga hn rfl) ARefA_tk0_3 rfl) pt19 ?_
      refine s_eff rfl rfl (e_new (hl1 hn) ha1) pt4 ?_
      refine s_eff rfl rfl (e_store lk4 (cvl lk19 rfl) (hga hn rfl) rfl (Nat.le_of_ble_eq_true rfl) rfl ARefA_sc0_3 (hs1 hn)) ptn ?_
      refine s_nil ?_
      refine n_seq ?_
      refine w_seq ?_
      refine w_seq ?_
      refine w_reg ?_
      refine s_val rfl (v_mv lki) pt5 ?_
      refine s_nil ?_
      refine n_seq ?_
      refine w_block ?_
      refine w_loop (ι := Nat × Int × Int × Int × ByteArray) (fun (x_ : Nat × Int × Int × Int × ByteArray) => match x_ with | ⟨k, wa, ws, wv, wn⟩ => [(5, iv (k : Int)), (2, .any), (6, .any), (7, .any), (20, .any), (21, .any), (22, .any), (23, .any), (24, .any), (25, .any), (26, .any), (27, .any), (28, .any), (29, .any), (30, .any), (31, .any), (32, .any), (33, .any), (34, .any), (35, .any), (36, .any), (37, .any), (38, .any), (39, .any), (40, .any), (41, .any), (42, .any), (43, .any), (44, .any), (45, .any), (46, .any), (47, .any), (48, .any), (49, .any), (50, .any), (51, .any), (52, .any), (53, .any), (54, .any), (55, .any), (56, .any), (57, .any), (58, .any), (59, .any), (60, .any), (61, .any), (62, .any), (63, .any)]) (fun (x_ : Nat × Int × Int × Int × ByteArray) => match x_ with | ⟨k, wa, ws, wv, wn⟩ => [(1, .mk 0 23 3 [iv ws, iv wv, sv wn])]) (fun (x_ : Nat × Int × Int × Int × ByteArray) => match x_ with | ⟨k, wa, ws, wv, wn⟩ => k ≤ l.length ∧ checkT ((a, b, c), l) = chk wa (ws, wv, wn) (l.drop k) ∧ (k = 0 → wa = -62135596801) ∧ ∀ (h : 0 < k) (hk : k - 1 < l.length), wa = l[k - 1].1) (fun (x_ : Nat × Int × Int × Int × ByteArray) => match x_ with | ⟨k, wa, ws, wv, wn⟩ => l.length - k) (⟨0, -62135596801, a, b, c⟩) (by exact ⟨by omega, by rw [hE]; simp, fun _ => rfl, fun h => absurd h (by omega)⟩) (by try simp only [setsT, setsE, List.set_cons_zero, List.set_cons_succ]; exact ALe.same (wk1 rfl (wk1 rfl (wka (wk1 rfl (wk1 rfl (wk1 (by first | rfl | exact ivx (by omega) | (simp; done)) (wka (wka (wk1 rfl (wk1 rfl (wk1 rfl (wk1 rfl (wk1 rfl (wk1 rfl (wk1 rfl (wk1 rfl (wk1 rfl (wk1 rfl (wk1 rfl (wk1 rfl (wka (wka (wka (wka (wka (wka (wka (wka (wka (wka (wka (wka (wka (wka (wka (wka (wka (wka (wka (wka (wka (wka (wka (wka (wka (wka (wka (wka (wka (wka (wka (wka (wka (wka (wka (wka (wka (wka (wka (wka (wka (wka (wka (wka wk0)))))))))))))))))))))))))))))))))))))))))))))))))))))))))))))))) rfl) ?_
      rintro ⟨k, wa, ws, wv, wn⟩ hi1
      try simp only [setsT, setsE, List.set_cons_zero, List.set_cons_succ]
      obtain ⟨hk1, hk2, hk3, hk4⟩ := hi1
      refine w_seq ?_
      refine w_seq ?_
      refine w_reg ?_
      refine s_val rfl (v_mv lk5) pt20 ?_
      refine s_val rfl (v_fap0 lk1) pt21 ?_
      refine s_val rfl (v_loadp lk21 (hga hn rfl) gt3) pt22 ?_
      refine s_val rfl (v_lenL lk22) pt23 ?_
      refine s_val rfl (v_lss lk20 lk23) pt24 ?_
      refine s_nil ?_
      refine n_seq ?_
      first | refine w_cond lk24 (fun hc3 => ?_) (fun hc3 => ?_) | refine w_condB lk24 (fun hc3 => ?_) (fun hc3 => ?_)
      · skip
        have hk : k < l.length := by omega
        have hsz : l[k].2.2.2.size ≤ maxLen := hl _ (List.getElem_mem hk)
        rw [List.drop_eq_getElem_cons hk] at hk2
        refine w_skip ?_
        refine n_seq ?_
        refine w_seq ?_
        refine w_block ?_
        refine w_seq ?_
        refine w_reg ?_
        refine s_val rfl (v_fap0 lk1) pt27 ?_
        refine s_val rfl (v_loadp lk27 (hga hn rfl) gt3) pt28 ?_
        refine s_val rfl (v_mv lk5) pt29 ?_
        refine s_val rfl (v_iaR lk28 lk29 chg_len1 (Nat.le_of_ble_eq_true rfl) (by first | rfl | omega) (by omega) (by first | rfl | omega) rfl) pt30 ?_
        refine s_val rfl (v_loadrA lk30 ARefA_tk_4 rfl) pt31 ?_
        refine s_eff rfl rfl (e_new (hl2 hn) ha2) pt6 ?_
        refine s_eff rfl rfl (e_store lk6 (cvl lk31 rfl) (hga hn rfl) rfl (Nat.le_of_ble_eq_true rfl) rfl ARefA_sc0_4 (hs2 hn)) ptn ?_
        refine s_nil ?_
        refine n_seq ?_
        refine w_seq ?_
        refine w_seq ?_
        refine w_drwE ?_
        refine d_val rfl (v_fap0 lk6) pt32 ?_
        refine d_val rfl (v_loadp lk32 (hga hn rfl) gt0) pt33 ?_
        refine d_callp mp0 (fun hE hX => rleastAt_a) pt34 ?_
        refine d_callp mp0 (fun hE hX => rmostAt_a) pt35 ?_
        refine d_callp (mp1 lk33 (mp1 lk34 (mp1 lk35 mp0))) (fun hE hX => rbetween_a) pt36 ?_
        refine d_val rfl (v_notB lk36) pt37 ?_
        refine d_nil ?_
        refine e_nil ?_
        refine s_nil ?_
        refine n_seq ?_
        refine w_condB lk37 (fun hc4 => ?_) (fun hc4 => ?_)
        · skip
          refine w_seq ?_
          refine w_reg ?_
          refine s_val rfl (v_mv lki) pt2 ?_
          refine s_nil ?_
          refine n_seq ?_
          refine w_rets ?_
          refine r_thn ?_
          refine r_blk ?_
          refine r_thn ?_
          refine r_thn ?_
          refine r_blk ?_
          refine r_thn ?_
          refine w_ret (rs1 (rr_t gt2)) ?_
          refine rt (by first | rfl | (simp only [AV.lt, AV.ltL, Ent.lt, List.all_cons, List.all_nil, Bool.and_true, Bool.and_self, decide_true, chg_lt]; done) | (simp [AV.lt, AV.ltL, Ent.lt, chg_lt, *]; done) | (simp [AV.lt, AV.ltL, Ent.lt, chg_lt, *]; omega)) ?_
          refine ivx ?_; rw [hk2, chk_cons_3 (by simpa [timeB] using hc4)]
        · skip
          have hT : timeB l[k].1 = true := by simpa [timeB] using hc4
          have hT2 := timeB_iff.1 hT
          refine w_skip ?_
          refine n_seq ?_
          refine w_seq ?_
          refine w_seq ?_
          refine w_drwE ?_
          refine d_val rfl (v_mv lk5) pt38 ?_
          refine d_val rfl (v_gtr lk38 lki) pt39 ?_
          refine d_val rfl (v_mv lk39) pt40 ?_
          first | refine d_splitP gt40 pt40 pt40 (fun hg40 => ?_) (fun hg40 => ?_) | refine d_splitB gt40 pt40 pt40 (fun hg40 => ?_) (fun hg40 => ?_)
          · skip
            refine d_do gt40 ?_
            refine d_val rfl (v_fap0 lk6) pt41 ?_
            refine d_do gt40 ?_
            refine d_val rfl (v_loadp lk41 (hga hn rfl) gt0) pt42 ?_
            refine d_do gt40 ?_
            refine d_val rfl (v_fap0 lk1) pt43 ?_
            refine d_do gt40 ?_
            refine d_val rfl (v_loadp lk43 (hga hn rfl) gt3) pt44 ?_
            refine d_do gt40 ?_
            refine d_val rfl (v_mv lk5) pt45 ?_
            refine d_do gt40 ?_
            refine d_val rfl (v_sub lk45 lki (by omega) (by omega)) pt46 ?_
            refine d_do gt40 ?_
            refine d_val rfl (v_iaR (k := k - 1) lk44 lk46 chg_len1 (Nat.le_of_ble_eq_true rfl) (by first | rfl | omega) (by omega) (by first | rfl | omega) rfl) pt47 ?_
            refine d_do gt40 ?_
            refine d_val rfl (v_far lk47 dp0) pt48 ?_
            refine d_do gt40 ?_
            refine d_val rfl (v_loadr lk48 gt0) pt49 ?_
            refine d_do gt40 ?_
            refine d_val rfl (v_leq lk42 lk49) pt50 ?_
            refine d_val rfl (v_pickT lk40 lk50) pt51 ?_
            refine d_nil ?_
            refine e_nil ?_
            refine s_nil ?_
            refine n_seq ?_
            first | refine w_cond lk51 (fun hc5 => ?_) (fun hc5 => ?_) | refine w_condB lk51 (fun hc5 => ?_) (fun hc5 => ?_)
            · skip
              refine w_seq ?_
              refine w_reg ?_
              refine s_val rfl (v_mv lki) pt2 ?_
              refine s_nil ?_
              refine n_seq ?_
              skip
              refine w_rets ?_
              refine r_thn ?_
              refine r_blk ?_
              refine r_thn ?_
              refine r_thn ?_
              refine r_blk ?_
              refine r_thn ?_
              refine w_ret (rs1 (rr_t gt2)) ?_
              refine rt (by first | rfl | (simp only [AV.lt, AV.ltL, Ent.lt, List.all_cons, List.all_nil, Bool.and_true, Bool.and_self, decide_true, chg_lt]; done) | (simp [AV.lt, AV.ltL, Ent.lt, chg_lt, *]; done) | (simp [AV.lt, AV.ltL, Ent.lt, chg_lt, *]; omega)) ?_
              refine ivx ?_; rw [hk2, chk_cons_4 hT (by have := hk4 (by omega) (by omega); omega)]
            · skip
              skip
              refine w_skip ?_
              refine n_seq ?_
              refine w_seq ?_
              refine w_reg ?_
              refine s_val rfl (v_fap0 lk6) pt52 ?_
              refine s_val rfl (v_loadpA lk52 (hga hn rfl) ARefA_tk1_3 rfl) pt53 ?_
              refine s_callp (mp1 lk53 mp0) (rcheckLocal_a) pt54 ?_
              refine s_val rfl (v_mv lk54) pt7 ?_
              refine s_nil ?_
              refine n_seq ?_
              refine w_seq ?_
              refine w_seq ?_
              refine w_reg ?_
              refine s_val rfl (v_mv lk7) pt55 ?_
              refine s_val rfl (v_neq lk55 lki) pt56 ?_
              refine s_nil ?_
              refine n_seq ?_
              first | refine w_cond lk56 (fun hc6 => ?_) (fun hc6 => ?_) | refine w_condB lk56 (fun hc6 => ?_) (fun hc6 => ?_)
              · skip
                refine w_seq ?_
                refine w_reg ?_
                refine s_val rfl (v_mv lk7) pt57 ?_
                refine s_val rfl (v_mv lk57) pt2 ?_
                refine s_nil ?_
                refine n_seq ?_
                refine w_rets ?_
                refine r_thn ?_
                refine r_blk ?_
                refine r_thn ?_
                refine r_thn ?_
                refine r_blk ?_
                refine r_thn ?_
                refine w_ret (rs1 (rr_t gt2)) ?_
                refine rt (by first | rfl | (simp only [AV.lt, AV.ltL, Ent.lt, List.all_cons, List.all_nil, Bool.and_true, Bool.and_self, decide_true, chg_lt]; done) | (simp [AV.lt, AV.ltL, Ent.lt, chg_lt, *]; done) | (simp [AV.lt, AV.ltL, Ent.lt, chg_lt, *]; omega)) ?_
                refine ivx ?_; rw [hk2, chk_cons_l hT (by rcases Nat.eq_zero_or_pos k with e | e; have := hk3 e; omega; have := hk4 e (by omega); omega) hc6]
              · skip
                refine w_skip ?_
                refine n_seq ?_
                refine w_seq ?_
                refine w_seq ?_
                refine w_reg ?_
                refine s_val rfl (v_fap0 lk6) pt58 ?_
                refine s_val rfl (v_loadpA lk58 (hga hn rfl) ARefA_tk1_3 rfl) pt59 ?_
                refine s_val rfl (v_loadpA lk4 (hga hn rfl) ARefA_tk0_3 rfl) pt60 ?_
                refine s_val rfl (v_eqsT lk59 lk60 ARefA_eq_iis) pt61 ?_
                refine s_nil ?_
                refine n_seq ?_
                first | refine w_cond lk61 (fun hc7 => ?_) (fun hc7 => ?_) | refine w_condB lk61 (fun hc7 => ?_) (fun hc7 => ?_)
                · skip
                  refine w_seq ?_
                  refine w_reg ?_
                  refine s_val rfl (v_mv lki) pt2 ?_
                  refine s_nil ?_
                  refine n_seq ?_
                  refine w_rets ?_
                  refine r_thn ?_
                  refine r_blk ?_
                  refine r_thn ?_
                  refine r_thn ?_
                  refine r_blk ?_
                  refine r_thn ?_
                  refine w_ret (rs1 (rr_t gt2)) ?_
                  refine rt (by first | rfl | (simp only [AV.lt, AV.ltL, Ent.lt, List.all_cons, List.all_nil, Bool.and_true, Bool.and_self, decide_true, chg_lt]; done) | (simp [AV.lt, AV.ltL, Ent.lt, chg_lt, *]; done) | (simp [AV.lt, AV.ltL, Ent.lt, chg_lt, *]; omega)) ?_
                  refine ivx ?_; rw [hk2, chk_cons_s hT (by rcases Nat.eq_zero_or_pos k with e | e; have := hk3 e; omega; have := hk4 e (by omega); omega) (by simpa using hc6) (locEq_iff.2 (by obtain ⟨x1, x2, x3⟩ := hc7; exact Prod.ext x1 (Prod.ext x2 x3)))]
                · skip
                  refine w_skip ?_
                  refine n_seq ?_
                  refine w_reg ?_
                  refine s_val rfl (v_fap0 lk6) pt62 ?_
                  refine s_val rfl (v_loadpA lk62 (hga hn rfl) ARefA_tk1_3 rfl) pt63 ?_
                  refine s_eff rfl rfl (e_store lk4 (cvl lk63 rfl) (hga hn rfl) rfl (Nat.le_of_ble_eq_true rfl) rfl ARefA_sc0_3 (hs1 hn)) ptn ?_
                  refine s_nil ?_
                  refine n_blk ?_
                  refine n_seq ?_
                  refine w_reg ?_
                  refine s_val rfl (v_mv lk5) pt25 ?_
                  refine s_val rfl (v_add lk25 lki (by omega) (by omega)) pt26 ?_
                  refine s_val rfl (v_mv lk26) pt5 ?_
                  refine s_nil ?_
                  refine n_thn ?_
                  refine LoopTo.mk (⟨k + 1, l[k].1, l[k].2.1, l[k].2.2.1, l[k].2.2.2⟩) (by omega) (by (try dsimp only); refine ⟨by omega, ?_, fun e => by omega, fun h h' => rfl⟩; rw [hk2, chk_cons_ok hT (by rcases Nat.eq_zero_or_pos k with e | e; have := hk3 e; omega; have := hk4 e (by omega); omega) (by simpa using hc6) (locEq_no (fun e => hc7 (by rw [e]; simp)))]) (by (try dsimp only); (try simp only [setsT, setsE, List.set_cons_zero, List.set_cons_succ]); exact ALe.back (wk1 rfl (wk1 rfl (wka (wk1 rfl (wk1 rfl (wk1 (by first | rfl | exact ivx (by omega) | (simp; done)) (wka (wka (wk1 rfl (wk1 rfl (wk1 rfl (wk1 rfl (wk1 rfl (wk1 rfl (wk1 rfl (wk1 rfl (wk1 rfl (wk1 rfl (wk1 rfl (wk1 rfl (wka (wka (wka (wka (wka (wka (wka (wka (wka (wka (wka (wka (wka (wka (wka (wka (wka (wka (wka (wka (wka (wka (wka (wka (wka (wka (wka (wka (wka (wka (wka (wka (wka (wka (wka (wka (wka (wka (wka (wka (wka (wka (wka (wka wk0)))))))))))))))))))))))))))))))))))))))))))))))))))))))))))))))) (by rfl) (k := N + 2) (by simp only [List.length_cons, List.length_nil, hn]) (by omega) (by first | rfl | (simp only [AV.lt, AV.ltL, Ent.lt, List.all_cons, List.all_nil, Bool.and_true, Bool.and_self, decide_true, chg_lt]; done) | (simp [AV.lt, AV.ltL, Ent.lt, chg_lt, *]; done) | (simp [AV.lt, AV.ltL, Ent.lt, chg_lt, *]; omega)) (ltw (by omega) hlt) (by first | rfl | (simp only [AV.lt, AV.ltL, Ent.lt, List.all_cons, List.all_nil, Bool.and_true, Bool.and_self, decide_true, chg_lt]; done) | (simp [AV.lt, AV.ltL, Ent.lt, chg_lt, *]; done) | (simp [AV.lt, AV.ltL, Ent.lt, chg_lt, *]; omega)))
          · skip
            refine d_no gt40 pt41 ?_
            refine d_no gt40 pt42 ?_
            refine d_no gt40 pt43 ?_
            refine d_no gt40 pt44 ?_
            refine d_no gt40 pt45 ?_
            refine d_no gt40 pt46 ?_
            refine d_no gt40 pt47 ?_
            refine d_no gt40 pt48 ?_
            refine d_no gt40 pt49 ?_
            refine d_no gt40 pt50 ?_
            refine d_val rfl (v_pickF lk40 lkb) pt51 ?_
            refine d_nil ?_
            refine e_nil ?_
            refine s_nil ?_
            refine n_seq ?_
            refine w_condF lk51 ?_
            refine w_skip ?_
            refine n_seq ?_
            refine w_seq ?_
            refine w_reg ?_
            refine s_val rfl (v_fap0 lk6) pt52 ?_
            refine s_val rfl (v_loadpA lk52 (hga hn rfl) ARefA_tk1_3 rfl) pt53 ?_
            refine s_callp (mp1 lk53 mp0) (rcheckLocal_a) pt54 ?_
            refine s_val rfl (v_mv lk54) pt7 ?_
            refine s_nil ?_
            refine n_seq ?_
            refine w_seq ?_
            refine w_seq ?_
            refine w_reg ?_
            refine s_val rfl (v_mv lk7) pt55 ?_
            refine s_val rfl (v_neq lk55 lki) pt56 ?_
            refine s_nil ?_
            refine n_seq ?_
            first | refine w_cond lk56 (fun hc6 => ?_) (fun hc6 => ?_) | refine w_condB lk56 (fun hc6 => ?_) (fun hc6 => ?_)
            · skip
              refine w_seq ?_
              refine w_reg ?_
              refine s_val rfl (v_mv lk7) pt57 ?_
              refine s_val rfl (v_mv lk57) pt2 ?_
              refine s_nil ?_
              refine n_seq ?_
              refine w_rets ?_
              refine r_thn ?_
              refine r_blk ?_
              refine r_thn ?_
              refine r_thn ?_
              refine r_blk ?_
              refine r_thn ?_
              refine w_ret (rs1 (rr_t gt2)) ?_
              refine rt (by first | rfl | (simp only [AV.lt, AV.ltL, Ent.lt, List.all_cons, List.all_nil, Bool.and_true, Bool.and_self, decide_true, chg_lt]; done) | (simp [AV.lt, AV.ltL, Ent.lt, chg_lt, *]; done) | (simp [AV.lt, AV.ltL, Ent.lt, chg_lt, *]; omega)) ?_
              refine ivx ?_; rw [hk2, chk_cons_l hT (by rcases Nat.eq_zero_or_pos k with e | e; have := hk3 e; omega; have := hk4 e (by omega); omega) hc6]
            · skip
              refine w_skip ?_
              refine n_seq ?_
              refine w_seq ?_
              refine w_seq ?_
              refine w_reg ?_
              refine s_val rfl (v_fap0 lk6) pt58 ?_
              refine s_val rfl (v_loadpA lk58 (hga hn rfl) ARefA_tk1_3 rfl) pt59 ?_
              refine s_val rfl (v_loadpA lk4 (hga hn rfl) ARefA_tk0_3 rfl) pt60 ?_
              refine s_val rfl (v_eqsT lk59 lk60 ARefA_eq_iis) pt61 ?_
              refine s_nil ?_
              refine n_seq ?_
              first | refine w_cond lk61 (fun hc7 => ?_) (fun hc7 => ?_) | refine w_condB lk61 (fun hc7 => ?_) (fun hc7 => ?_)
              · skip
                refine w_seq ?_
                refine w_reg ?_
                refine s_val rfl (v_mv lki) pt2 ?_
                refine s_nil ?_
                refine n_seq ?_
                refine w_rets ?_
                refine r_thn ?_
                refine r_blk ?_
                refine r_thn ?_
                refine r_thn ?_
                refine r_blk ?_
                refine r_thn ?_
                refine w_ret (rs1 (rr_t gt2)) ?_
                refine rt (by first | rfl | (simp only [AV.lt, AV.ltL, Ent.lt, List.all_cons, List.all_nil, Bool.and_true, Bool.and_self, decide_true, chg_lt]; done) | (simp [AV.lt, AV.ltL, Ent.lt, chg_lt, *]; done) | (simp [AV.lt, AV.ltL, Ent.lt, chg_lt, *]; omega)) ?_
                refine ivx ?_; rw [hk2, chk_cons_s hT (by rcases Nat.eq_zero_or_pos k with e | e; have := hk3 e; omega; have := hk4 e (by omega); omega) (by simpa using hc6) (locEq_iff.2 (by obtain ⟨x1, x2, x3⟩ := hc7; exact Prod.ext x1 (Prod.ext x2 x3)))]
              · skip
                refine w_skip ?_
                refine n_seq ?_
                refine w_reg ?_
                refine s_val rfl (v_fap0 lk6) pt62 ?_
                refine s_val rfl (v_loadpA lk62 (hga hn rfl) ARefA_tk1_3 rfl) pt63 ?_
                refine s_eff rfl rfl (e_store lk4 (cvl lk63 rfl) (hga hn rfl) rfl (Nat.le_of_ble_eq_true rfl) rfl ARefA_sc0_3 (hs1 hn)) ptn ?_
                refine s_nil ?_
                refine n_blk ?_
                refine n_seq ?_
                refine w_reg ?_
                refine s_val rfl (v_mv lk5) pt25 ?_
                refine s_val rfl (v_add lk25 lki (by omega) (by omega)) pt26 ?_
                refine s_val rfl (v_mv lk26) pt5 ?_
                refine s_nil ?_
                refine n_thn ?_
                refine LoopTo.mk (⟨k + 1, l[k].1, l[k].2.1, l[k].2.2.1, l[k].2.2.2⟩) (by omega) (by (try dsimp only); refine ⟨by omega, ?_, fun e => by omega, fun h h' => rfl⟩; rw [hk2, chk_cons_ok hT (by rcases Nat.eq_zero_or_pos k with e | e; have := hk3 e; omega; have := hk4 e (by omega); omega) (by simpa using hc6) (locEq_no (fun e => hc7 (by rw [e]; simp)))]) (by (try dsimp only); (try simp only [setsT, setsE, List.set_cons_zero, List.set_cons_succ]); exact ALe.back (wk1 rfl (wk1 rfl (wka (wk1 rfl (wk1 rfl (wk1 (by first | rfl | exact ivx (by omega) | (simp; done)) (wka (wka (wk1 rfl (wk1 rfl (wk1 rfl (wk1 rfl (wk1 rfl (wk1 rfl (wk1 rfl (wk1 rfl (wk1 rfl (wk1 rfl (wk1 rfl (wk1 rfl (wka (wka (wka (wka (wka (wka (wka (wka (wka (wka (wka (wka (wka (wka (wka (wka (wka (wka (wka (wka (wka (wka (wka (wka (wka (wka (wka (wka (wka (wka (wka (wka (wka (wka (wka (wka (wka (wka (wka (wka (wka (wka (wka (wka wk0)))))))))))))))))))))))))))))))))))))))))))))))))))))))))))))))) (by rfl) (k := N + 2) (by simp only [List.length_cons, List.length_nil, hn]) (by omega) (by first | rfl | (simp only [AV.lt, AV.ltL, Ent.lt, List.all_cons, List.all_nil, Bool.and_true, Bool.and_self, decide_true, chg_lt]; done) | (simp [AV.lt, AV.ltL, Ent.lt, chg_lt, *]; done) | (simp [AV.lt, AV.ltL, Ent.lt, chg_lt, *]; omega)) (ltw (by omega) hlt) (by first | rfl | (simp only [AV.lt, AV.ltL, Ent.lt, List.all_cons, List.all_nil, Bool.and_true, Bool.and_self, decide_true, chg_lt]; done) | (simp [AV.lt, AV.ltL, Ent.lt, chg_lt, *]; done) | (simp [AV.lt, AV.ltL, Ent.lt, chg_lt, *]; omega)))
      · skip
        refine w_exit ?_
        refine x_thn ?_
        refine x_thn ?_
        refine x_blk ?_
        refine n_seq ?_
        refine w_seq ?_
        refine w_reg ?_
        refine s_val rfl (v_mv lki) pt2 ?_
        refine s_nil ?_
        refine n_seq ?_
        refine w_rets ?_
        refine w_ret (rs1 (rr_t gt2)) ?_
        refine rt (by first | rfl | (simp only [AV.lt, AV.ltL, Ent.lt, List.all_cons, List.all_nil, Bool.and_true, Bool.and_self, decide_true, chg_lt]; done) | (simp [AV.lt, AV.ltL, Ent.lt, chg_lt, *]; done) | (simp [AV.lt, AV.ltL, Ent.lt, chg_lt, *]; omega)) ?_
        refine ivx ?_; rw [hk2, List.drop_eq_nil_of_le (by omega), chk_nil]
end Go.Proofs.Ytmbebimingkfeaa
