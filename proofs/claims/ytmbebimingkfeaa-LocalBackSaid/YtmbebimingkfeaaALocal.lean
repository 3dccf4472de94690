/-
  Contracts on plain data: what clocks show, and when. Conditions: those that each theorem names.
-/
import Derived.Test.YtmbebimingkfeaaAThere
import Derived.Test.YtmbebimingkfeaaACiv
import Derived.Test.YtmbebimingkfeaaLShift
set_option linter.unusedVariables false
set_option linter.unusedSimpArgs false
set_option maxRecDepth 100000
namespace Go.Proofs.Ytmbebimingkfeaa
open Go.Ab Civ
section
theorem ALocal_sc0_3 {a0 a1 a2 c0 c1 c2 : AV} {l : List AV} : setCells (a0 :: a1 :: a2 :: l) 0 [c0, c1, c2] = c0 :: c1 :: c2 :: l := rfl
theorem ALocal_Shown_22 {τ : Operand → AV} : fillAV τ [] [(.v (.int .i64 0)), (.v (.int .i64 0)), (.v (.int .i64 0))] = some [(.v (.int .i64 0)), (.v (.int .i64 0)), (.v (.int .i64 0))] := rfl
theorem ALocal_tk0_3 {a0 a1 a2 : AV} {l : List AV} : ((a0 :: a1 :: a2 :: l).drop 0).take 3 = [a0, a1, a2] := rfl
theorem ALocal_tk0_4 {a0 a1 a2 a3 : AV} {l : List AV} : ((a0 :: a1 :: a2 :: a3 :: l).drop 0).take 4 = [a0, a1, a2, a3] := rfl
theorem ALocal_Wall_16 {τ : Operand → AV} : fillAV τ [] [(.v (.int .i64 0)), (.v (.int .i64 0)), (.v (.int .i64 0))] = some [(.v (.int .i64 0)), (.v (.int .i64 0)), (.v (.int .i64 0))] := rfl
theorem ALocal_Times_28 {τ : Operand → AV} {y0 : Operand} {x0_0 : AV} (h0 : cellsV (τ y0) = some [x0_0]) (l0 : [x0_0].all leaf = true) : fillAV τ [(0, 1, y0)] [(.v (.int .i64 0))] = some [x0_0] := by
  simp only [fillAV, h0, l0]
  rfl
theorem ALocal_tk_1 {a0 : AV} {l : List AV} : (a0 :: l).take 1 = [a0] := rfl
end
/-- local.Shown -/
def c50 : AC := (.seq (.reg [⟨(some 2), none, (.new 52 3 [(.v (.int .i64 0)), (.v (.int .i64 0)), (.v (.int .i64 0))])⟩, ⟨(some 3), none, (.mv (.const (.int .i64 0)))⟩, ⟨(some 4), none, (.mv (.const (.int .i64 0)))⟩]) (.seq (.reg [⟨(some 8), none, (.mv (.tmp 0))⟩, ⟨(some 9), none, (.bin .rem (.tmp 8) (.const (.int .i64 86400)))⟩, ⟨(some 10), none, (.bin .add (.tmp 9) (.const (.int .i64 86400)))⟩, ⟨(some 11), none, (.bin .rem (.tmp 10) (.const (.int .i64 86400)))⟩, ⟨(some 5), none, (.mv (.tmp 11))⟩]) (.seq (.reg [⟨(some 13), none, (.mv (.tmp 0))⟩, ⟨(some 14), none, (.mv (.tmp 5))⟩, ⟨(some 15), none, (.bin .sub (.tmp 13) (.tmp 14))⟩, ⟨(some 16), none, (.bin .quo (.tmp 15) (.const (.int .i64 86400)))⟩, ⟨(some 17), none, (.call (.func 70) [(.tmp 16)])⟩, ⟨(some 12), none, (.mv (.tmp 17))⟩, ⟨(some 18), none, (.ext (.tmp 12) 0)⟩, ⟨(some 19), none, (.ext (.tmp 12) 1)⟩, ⟨(some 6), none, (.new 52 3 [(.v (.int .i64 0)), (.v (.int .i64 0)), (.v (.int .i64 0))])⟩, ⟨none, none, (.store 3 (.tmp 6) (.tmp 18))⟩, ⟨(some 7), none, (.mv (.tmp 19))⟩]) (.seq (.seq (.reg [⟨(some 20), none, (.mv (.tmp 7))⟩, ⟨(some 21), none, (.bin .neq (.tmp 20) (.const (.int .i64 0)))⟩]) (.cond (.tmp 21) (.seq (.reg [⟨(some 22), none, (.build [(.v (.int .i64 0)), (.v (.int .i64 0)), (.v (.int .i64 0))] [])⟩, ⟨(some 23), none, (.mv (.tmp 7))⟩, ⟨none, none, (.store 3 (.tmp 2) (.tmp 22))⟩, ⟨(some 3), none, (.mv (.const (.int .i64 0)))⟩, ⟨(some 4), none, (.mv (.tmp 23))⟩]) .ret) .skip)) (.seq (.reg [⟨(some 24), none, (.load true 3 (.tmp 6))⟩, ⟨(some 25), none, (.mv (.tmp 5))⟩, ⟨none, none, (.store 3 (.tmp 2) (.tmp 24))⟩, ⟨(some 3), none, (.mv (.tmp 25))⟩, ⟨(some 4), none, (.mv (.const (.int .i64 0)))⟩]) .ret)))))
theorem k50 : compF Try.prog 50 = some ⟨c50, [(.cell 2 true 3), (.tmp 3), (.tmp 4)], 26⟩ := by kernel_rfl
theorem i50 {a0 : AV} {h : AH} {R : AE → Prop} (hw : ∀ n, h.length = n → (∀ e ∈ h, e.lt n = true) → AV.ltL n [a0] = true → AV.bdL [a0] → aw Try.prog n c50 (retA [(.cell 2 true 3), (.tmp 3), (.tmp 4)] fun x h' => ∃ z, h' = h ++ z ∧ x.lt n = true ∧ R x) [a0, .any, .any, .any, .any, .any, .any, .any, .any, .any, .any, .any, .any, .any, .any, .any, .any, .any, .any, .any, .any, .any, .any, .any, .any, .any] (h ++ [])) : ACalls Try.prog 50 [a0] h fun x h' => h' = h ∧ R x := ACalls.into k50 rfl hw
theorem w50 {a0 : AV} {h : AH} {res : AV} (hw : ∀ n, h.length = n → (∀ e ∈ h, e.lt n = true) → AV.ltL n [a0] = true → AV.bdL [a0] → aw Try.prog n c50 (retA [(.cell 2 true 3), (.tmp 3), (.tmp 4)] fun x h' => ∃ z, h' = h ++ z ∧ x.lt n = true ∧ ∃ c, x = .ret c ∧ Wk c res) [a0, .any, .any, .any, .any, .any, .any, .any, .any, .any, .any, .any, .any, .any, .any, .any, .any, .any, .any, .any, .any, .any, .any, .any, .any, .any] (h ++ [])) : ACalls Try.prog 50 [a0] h fun x h' => h' = h ∧ x = .ret res := ACalls.weak (ACalls.into k50 rfl hw)
theorem n50 {a0 : AV} {h : AH} {R : AE → AH → Prop} (hw : ∀ n, h.length = n → (∀ e ∈ h, e.lt n = true) → AV.ltL n [a0] = true → AV.bdL [a0] → aw Try.prog n c50 (retA [(.cell 2 true 3), (.tmp 3), (.tmp 4)] R) [a0, .any, .any, .any, .any, .any, .any, .any, .any, .any, .any, .any, .any, .any, .any, .any, .any, .any, .any, .any, .any, .any, .any, .any, .any, .any] (h ++ [])) : ACalls Try.prog 50 [a0] h R := ACalls.intoN k50 rfl hw
theorem j50 {a0 : AV} {h : AH} {R : AE → AH → Prop} (hw : ∀ n, h.length = n → (∀ e ∈ h, e.lt n = true) → AV.ltL n [a0] = true → AV.bdL [a0] → aw Try.prog n c50 (retA [(.cell 2 true 3), (.tmp 3), (.tmp 4)] fun x h' => ∃ y z, h' = y ++ z ∧ y.length = n ∧ (∀ e ∈ y, e.lt n = true) ∧ x.lt n = true ∧ R x y) [a0, .any, .any, .any, .any, .any, .any, .any, .any, .any, .any, .any, .any, .any, .any, .any, .any, .any, .any, .any, .any, .any, .any, .any, .any, .any] (h ++ [])) : ACalls Try.prog 50 [a0] h R := ACalls.intoG k50 rfl hw
/-- local.Wall -/
def c25 : AC := (.seq (.reg [⟨(some 2), none, (.box 26 4 (.tmp 0))⟩, ⟨(some 4), none, (.new 52 3 [(.v (.int .i64 0)), (.v (.int .i64 0)), (.v (.int .i64 0))])⟩, ⟨(some 5), none, (.mv (.const (.int .i64 0)))⟩, ⟨(some 6), none, (.mv (.const (.int .i64 0)))⟩]) (.seq (.reg [⟨(some 10), none, (.load true 4 (.tmp 2))⟩, ⟨(some 11), none, (.mv (.tmp 1))⟩, ⟨(some 12), none, (.call (.func 49) [(.tmp 10), (.tmp 11)])⟩, ⟨(some 9), none, (.mv (.tmp 12))⟩, ⟨(some 13), none, (.ext (.tmp 9) 0)⟩, ⟨(some 14), none, (.ext (.tmp 9) 1)⟩, ⟨(some 7), none, (.new 23 3 [(.v (.int .i64 0)), (.v (.int .i64 0)), (.v (.string ⟨#[]⟩))])⟩, ⟨none, none, (.store 3 (.tmp 7) (.tmp 13))⟩, ⟨(some 8), none, (.mv (.tmp 14))⟩]) (.seq (.seq (.reg [⟨(some 15), none, (.mv (.tmp 8))⟩, ⟨(some 16), none, (.bin .neq (.tmp 15) (.const (.int .i64 0)))⟩]) (.cond (.tmp 16) (.seq (.reg [⟨(some 17), none, (.build [(.v (.int .i64 0)), (.v (.int .i64 0)), (.v (.int .i64 0))] [])⟩, ⟨(some 18), none, (.mv (.tmp 8))⟩, ⟨none, none, (.store 3 (.tmp 4) (.tmp 17))⟩, ⟨(some 5), none, (.mv (.const (.int .i64 0)))⟩, ⟨(some 6), none, (.mv (.tmp 18))⟩]) .ret) .skip)) (.seq (.reg [⟨(some 19), none, (.mv (.tmp 1))⟩, ⟨(some 20), none, (.fa 0 (.tmp 7))⟩, ⟨(some 21), none, (.load false 1 (.tmp 20))⟩, ⟨(some 22), none, (.bin .add (.tmp 19) (.tmp 21))⟩, ⟨(some 23), none, (.call (.func 50) [(.tmp 22)])⟩, ⟨(some 24), none, (.ext (.tmp 23) 0)⟩, ⟨(some 25), none, (.ext (.tmp 23) 1)⟩, ⟨(some 26), none, (.ext (.tmp 23) 2)⟩, ⟨none, none, (.store 3 (.tmp 4) (.tmp 24))⟩, ⟨(some 5), none, (.mv (.tmp 25))⟩, ⟨(some 6), none, (.mv (.tmp 26))⟩]) .ret))))
theorem k25 : compF Try.prog 25 = some ⟨c25, [(.cell 4 true 3), (.tmp 5), (.tmp 6)], 27⟩ := by kernel_rfl
theorem i25 {a0 a1 : AV} {h : AH} {R : AE → Prop} (hw : ∀ n, h.length = n → (∀ e ∈ h, e.lt n = true) → AV.ltL n [a0, a1] = true → AV.bdL [a0, a1] → aw Try.prog n c25 (retA [(.cell 4 true 3), (.tmp 5), (.tmp 6)] fun x h' => ∃ z, h' = h ++ z ∧ x.lt n = true ∧ R x) [a0, a1, .any, .any, .any, .any, .any, .any, .any, .any, .any, .any, .any, .any, .any, .any, .any, .any, .any, .any, .any, .any, .any, .any, .any, .any, .any] (h ++ [])) : ACalls Try.prog 25 [a0, a1] h fun x h' => h' = h ∧ R x := ACalls.into k25 rfl hw
theorem w25 {a0 a1 : AV} {h : AH} {res : AV} (hw : ∀ n, h.length = n → (∀ e ∈ h, e.lt n = true) → AV.ltL n [a0, a1] = true → AV.bdL [a0, a1] → aw Try.prog n c25 (retA [(.cell 4 true 3), (.tmp 5), (.tmp 6)] fun x h' => ∃ z, h' = h ++ z ∧ x.lt n = true ∧ ∃ c, x = .ret c ∧ Wk c res) [a0, a1, .any, .any, .any, .any, .any, .any, .any, .any, .any, .any, .any, .any, .any, .any, .any, .any, .any, .any, .any, .any, .any, .any, .any, .any, .any] (h ++ [])) : ACalls Try.prog 25 [a0, a1] h fun x h' => h' = h ∧ x = .ret res := ACalls.weak (ACalls.into k25 rfl hw)
theorem n25 {a0 a1 : AV} {h : AH} {R : AE → AH → Prop} (hw : ∀ n, h.length = n → (∀ e ∈ h, e.lt n = true) → AV.ltL n [a0, a1] = true → AV.bdL [a0, a1] → aw Try.prog n c25 (retA [(.cell 4 true 3), (.tmp 5), (.tmp 6)] R) [a0, a1, .any, .any, .any, .any, .any, .any, .any, .any, .any, .any, .any, .any, .any, .any, .any, .any, .any, .any, .any, .any, .any, .any, .any, .any, .any] (h ++ [])) : ACalls Try.prog 25 [a0, a1] h R := ACalls.intoN k25 rfl hw
theorem j25 {a0 a1 : AV} {h : AH} {R : AE → AH → Prop} (hw : ∀ n, h.length = n → (∀ e ∈ h, e.lt n = true) → AV.ltL n [a0, a1] = true → AV.bdL [a0, a1] → aw Try.prog n c25 (retA [(.cell 4 true 3), (.tmp 5), (.tmp 6)] fun x h' => ∃ y z, h' = y ++ z ∧ y.length = n ∧ (∀ e ∈ y, e.lt n = true) ∧ x.lt n = true ∧ R x y) [a0, a1, .any, .any, .any, .any, .any, .any, .any, .any, .any, .any, .any, .any, .any, .any, .any, .any, .any, .any, .any, .any, .any, .any, .any, .any, .any] (h ++ [])) : ACalls Try.prog 25 [a0, a1] h R := ACalls.intoG k25 rfl hw
/-- local.Times -/
def c52 : AC := (.seq (.reg [⟨(some 2), none, (.box 26 4 (.tmp 0))⟩, ⟨(some 4), none, (.mv (.const (.slice none 0 0)))⟩]) (.seq (.reg [⟨(some 5), none, (.mv (.const (.slice none 0 0)))⟩]) (.seq (.seq (.reg [⟨(some 9), none, (.load true 4 (.tmp 2))⟩, ⟨(some 10), none, (.call (.func 73) [(.tmp 9)])⟩, ⟨(some 11), none, (.len false (.tmp 10))⟩, ⟨(some 12), none, (.mv (.const (.int .i64 0)))⟩]) (.block 0 (.loop (.seq (.reg [⟨(some 13), none, (.bin .lss (.tmp 12) (.tmp 11))⟩]) (.seq (.cond (.tmp 13) .skip (.exit 0)) (.seq (.block 1 (.seq (.reg [⟨(some 14), none, (.ia 1 (.tmp 10) (.tmp 12))⟩, ⟨(some 15), none, (.load false 1 (.tmp 14))⟩, ⟨(some 7), none, (.mv (.tmp 15))⟩]) (.seq (.reg [⟨(some 16), none, (.mv (.tmp 1))⟩, ⟨(some 17), none, (.mv (.tmp 7))⟩, ⟨(some 18), none, (.bin .sub (.tmp 16) (.tmp 17))⟩, ⟨(some 8), none, (.mv (.tmp 18))⟩]) (.seq (.reg [⟨(some 19), none, (.mv (.tmp 8))⟩, ⟨(some 20), none, (.call (.func 61) [(.tmp 19)])⟩, ⟨(some 21), none, (.mv (.tmp 20))⟩, ⟨(some 22), (some (21, true)), (.load true 4 (.tmp 2))⟩, ⟨(some 23), (some (21, true)), (.mv (.tmp 8))⟩, ⟨(some 24), (some (21, true)), (.call (.func 69) [(.tmp 22), (.tmp 23)])⟩, ⟨(some 25), (some (21, true)), (.fld false 0 1 (.tmp 24))⟩, ⟨(some 26), (some (21, true)), (.mv (.tmp 7))⟩, ⟨(some 27), (some (21, true)), (.bin .eql (.tmp 25) (.tmp 26))⟩, ⟨(some 28), none, (.pick (.tmp 21) (.tmp 27) (.const (.bool false)))⟩]) (.cond (.tmp 28) (.reg [⟨(some 29), none, (.mv (.tmp 5))⟩, ⟨(some 30), none, (.mv (.tmp 8))⟩, ⟨(some 31), none, (.lit 3 1 1 [(.v (.int .i64 0))] [(0, (1, (.tmp 30)))])⟩, ⟨(some 32), none, (.app 3 1 8 (.tmp 29) (.tmp 31))⟩, ⟨(some 5), none, (.mv (.tmp 32))⟩]) .skip))))) (.reg [⟨(some 33), none, (.bin .add (.tmp 12) (.const (.int .i64 1)))⟩, ⟨(some 12), none, (.mv (.tmp 33))⟩]))))))) (.seq (.reg [⟨(some 34), none, (.mv (.tmp 5))⟩, ⟨(some 35), none, (.call (.func 74) [(.tmp 34)])⟩]) (.seq (.reg [⟨(some 36), none, (.mv (.tmp 5))⟩, ⟨(some 4), none, (.mv (.tmp 36))⟩]) .ret)))))
theorem k52 : compF Try.prog 52 = some ⟨c52, [(.tmp 4)], 37⟩ := by kernel_rfl
theorem i52 {a0 a1 : AV} {h : AH} {R : AE → Prop} (hw : ∀ n, h.length = n → (∀ e ∈ h, e.lt n = true) → AV.ltL n [a0, a1] = true → AV.bdL [a0, a1] → aw Try.prog n c52 (retA [(.tmp 4)] fun x h' => ∃ z, h' = h ++ z ∧ x.lt n = true ∧ R x) [a0, a1, .any, .any, .any, .any, .any, .any, .any, .any, .any, .any, .any, .any, .any, .any, .any, .any, .any, .any, .any, .any, .any, .any, .any, .any, .any, .any, .any, .any, .any, .any, .any, .any, .any, .any, .any] (h ++ [])) : ACalls Try.prog 52 [a0, a1] h fun x h' => h' = h ∧ R x := ACalls.into k52 rfl hw
theorem w52 {a0 a1 : AV} {h : AH} {res : AV} (hw : ∀ n, h.length = n → (∀ e ∈ h, e.lt n = true) → AV.ltL n [a0, a1] = true → AV.bdL [a0, a1] → aw Try.prog n c52 (retA [(.tmp 4)] fun x h' => ∃ z, h' = h ++ z ∧ x.lt n = true ∧ ∃ c, x = .ret c ∧ Wk c res) [a0, a1, .any, .any, .any, .any, .any, .any, .any, .any, .any, .any, .any, .any, .any, .any, .any, .any, .any, .any, .any, .any, .any, .any, .any, .any, .any, .any, .any, .any, .any, .any, .any, .any, .any, .any, .any] (h ++ [])) : ACalls Try.prog 52 [a0, a1] h fun x h' => h' = h ∧ x = .ret res := ACalls.weak (ACalls.into k52 rfl hw)
theorem n52 {a0 a1 : AV} {h : AH} {R : AE → AH → Prop} (hw : ∀ n, h.length = n → (∀ e ∈ h, e.lt n = true) → AV.ltL n [a0, a1] = true → AV.bdL [a0, a1] → aw Try.prog n c52 (retA [(.tmp 4)] R) [a0, a1, .any, .any, .any, .any, .any, .any, .any, .any, .any, .any, .any, .any, .any, .any, .any, .any, .any, .any, .any, .any, .any, .any, .any, .any, .any, .any, .any, .any, .any, .any, .any, .any, .any, .any, .any] (h ++ [])) : ACalls Try.prog 52 [a0, a1] h R := ACalls.intoN k52 rfl hw
theorem j52 {a0 a1 : AV} {h : AH} {R : AE → AH → Prop} (hw : ∀ n, h.length = n → (∀ e ∈ h, e.lt n = true) → AV.ltL n [a0, a1] = true → AV.bdL [a0, a1] → aw Try.prog n c52 (retA [(.tmp 4)] fun x h' => ∃ y z, h' = y ++ z ∧ y.length = n ∧ (∀ e ∈ y, e.lt n = true) ∧ x.lt n = true ∧ R x y) [a0, a1, .any, .any, .any, .any, .any, .any, .any, .any, .any, .any, .any, .any, .any, .any, .any, .any, .any, .any, .any, .any, .any, .any, .any, .any, .any, .any, .any, .any, .any, .any, .any, .any, .any, .any, .any] (h ++ [])) : ACalls Try.prog 52 [a0, a1] h R := ACalls.intoG k52 rfl hw
/-- local.When -/
def c26 : AC := (.seq (.reg [⟨(some 3), none, (.box 26 4 (.tmp 0))⟩, ⟨(some 4), none, (.box 52 3 (.tmp 1))⟩, ⟨(some 6), none, (.mv (.const (.slice none 0 0)))⟩, ⟨(some 7), none, (.mv (.const (.int .i64 0)))⟩]) (.seq (.seq (.reg [⟨(some 11), none, (.load true 4 (.tmp 3))⟩, ⟨(some 12), none, (.call (.func 35) [(.tmp 11)])⟩, ⟨(some 8), none, (.mv (.tmp 12))⟩]) (.seq (.reg [⟨(some 13), none, (.mv (.tmp 8))⟩, ⟨(some 14), none, (.bin .neq (.tmp 13) (.const (.int .i64 0)))⟩]) (.cond (.tmp 14) (.seq (.reg [⟨(some 15), none, (.mv (.tmp 8))⟩, ⟨(some 6), none, (.mv (.const (.slice none 0 0)))⟩, ⟨(some 7), none, (.mv (.tmp 15))⟩]) .ret) .skip))) (.seq (.reg [⟨(some 17), none, (.load true 3 (.tmp 4))⟩, ⟨(some 18), none, (.call (.func 51) [(.tmp 17)])⟩, ⟨(some 16), none, (.mv (.tmp 18))⟩, ⟨(some 19), none, (.ext (.tmp 16) 0)⟩, ⟨(some 20), none, (.ext (.tmp 16) 1)⟩, ⟨(some 9), none, (.mv (.tmp 19))⟩, ⟨(some 10), none, (.mv (.tmp 20))⟩]) (.seq (.seq (.reg [⟨(some 21), none, (.mv (.tmp 10))⟩, ⟨(some 22), none, (.bin .eql (.tmp 21) (.const (.int .i64 0)))⟩, ⟨(some 23), none, (.mv (.tmp 22))⟩, ⟨(some 24), (some (23, true)), (.mv (.tmp 2))⟩, ⟨(some 25), (some (23, true)), (.bin .lss (.tmp 24) (.const (.int .i64 0)))⟩, ⟨(some 26), (some (23, true)), (.mv (.tmp 25))⟩, ⟨(some 27), (some (26, false)), (.mv (.tmp 2))⟩, ⟨(some 28), (some (26, false)), (.bin .geq (.tmp 27) (.const (.int .i64 86400)))⟩, ⟨(some 29), (some (23, true)), (.pick (.tmp 26) (.const (.bool true)) (.tmp 28))⟩, ⟨(some 30), none, (.pick (.tmp 23) (.tmp 29) (.const (.bool false)))⟩]) (.cond (.tmp 30) (.reg [⟨(some 10), none, (.mv (.const (.int .i64 3)))⟩]) .skip)) (.seq (.seq (.reg [⟨(some 31), none, (.mv (.tmp 10))⟩, ⟨(some 32), none, (.bin .neq (.tmp 31) (.const (.int .i64 0)))⟩]) (.cond (.tmp 32) (.seq (.reg [⟨(some 33), none, (.mv (.tmp 10))⟩, ⟨(some 6), none, (.mv (.const (.slice none 0 0)))⟩, ⟨(some 7), none, (.mv (.tmp 33))⟩]) .ret) .skip)) (.seq (.reg [⟨(some 34), none, (.load true 4 (.tmp 3))⟩, ⟨(some 35), none, (.mv (.tmp 9))⟩, ⟨(some 36), none, (.bin .mul (.tmp 35) (.const (.int .i64 86400)))⟩, ⟨(some 37), none, (.mv (.tmp 2))⟩, ⟨(some 38), none, (.bin .add (.tmp 36) (.tmp 37))⟩, ⟨(some 39), none, (.call (.func 52) [(.tmp 34), (.tmp 38)])⟩, ⟨(some 6), none, (.mv (.tmp 39))⟩, ⟨(some 7), none, (.mv (.const (.int .i64 0)))⟩]) .ret))))))
theorem k26 : compF Try.prog 26 = some ⟨c26, [(.tmp 6), (.tmp 7)], 40⟩ := by kernel_rfl
theorem i26 {a0 a1 a2 : AV} {h : AH} {R : AE → Prop} (hw : ∀ n, h.length = n → (∀ e ∈ h, e.lt n = true) → AV.ltL n [a0, a1, a2] = true → AV.bdL [a0, a1, a2] → aw Try.prog n c26 (retA [(.tmp 6), (.tmp 7)] fun x h' => ∃ z, h' = h ++ z ∧ x.lt n = true ∧ R x) [a0, a1, a2, .any, .any, .any, .any, .any, .any, .any, .any, .any, .any, .any, .any, .any, .any, .any, .any, .any, .any, .any, .any, .any, .any, .any, .any, .any, .any, .any, .any, .any, .any, .any, .any, .any, .any, .any, .any, .any] (h ++ [])) : ACalls Try.prog 26 [a0, a1, a2] h fun x h' => h' = h ∧ R x := ACalls.into k26 rfl hw
theorem w26 {a0 a1 a2 : AV} {h : AH} {res : AV} (hw : ∀ n, h.length = n → (∀ e ∈ h, e.lt n = true) → AV.ltL n [a0, a1, a2] = true → AV.bdL [a0, a1, a2] → aw Try.prog n c26 (retA [(.tmp 6), (.tmp 7)] fun x h' => ∃ z, h' = h ++ z ∧ x.lt n = true ∧ ∃ c, x = .ret c ∧ Wk c res) [a0, a1, a2, .any, .any, .any, .any, .any, .any, .any, .any, .any, .any, .any, .any, .any, .any, .any, .any, .any, .any, .any, .any, .any, .any, .any, .any, .any, .any, .any, .any, .any, .any, .any, .any, .any, .any, .any, .any, .any] (h ++ [])) : ACalls Try.prog 26 [a0, a1, a2] h fun x h' => h' = h ∧ x = .ret res := ACalls.weak (ACalls.into k26 rfl hw)
theorem n26 {a0 a1 a2 : AV} {h : AH} {R : AE → AH → Prop} (hw : ∀ n, h.length = n → (∀ e ∈ h, e.lt n = true) → AV.ltL n [a0, a1, a2] = true → AV.bdL [a0, a1, a2] → aw Try.prog n c26 (retA [(.tmp 6), (.tmp 7)] R) [a0, a1, a2, .any, .any, .any, .any, .any, .any, .any, .any, .any, .any, .any, .any, .any, .any, .any, .any, .any, .any, .any, .any, .any, .any, .any, .any, .any, .any, .any, .any, .any, .any, .any, .any, .any, .any, .any, .any, .any] (h ++ [])) : ACalls Try.prog 26 [a0, a1, a2] h R := ACalls.intoN k26 rfl hw
theorem j26 {a0 a1 a2 : AV} {h : AH} {R : AE → AH → Prop} (hw : ∀ n, h.length = n → (∀ e ∈ h, e.lt n = true) → AV.ltL n [a0, a1, a2] = true → AV.bdL [a0, a1, a2] → aw Try.prog n c26 (retA [(.tmp 6), (.tmp 7)] fun x h' => ∃ y z, h' = y ++ z ∧ y.length = n ∧ (∀ e ∈ y, e.lt n = true) ∧ x.lt n = true ∧ R x y) [a0, a1, a2, .any, .any, .any, .any, .any, .any, .any, .any, .any, .any, .any, .any, .any, .any, .any, .any, .any, .any, .any, .any, .any, .any, .any, .any, .any, .any, .any, .any, .any, .any, .any, .any, .any, .any, .any, .any, .any] (h ++ [])) : ACalls Try.prog 26 [a0, a1, a2] h R := ACalls.intoG k26 rfl hw
theorem tmod_bd (n : Int) : -86400 < n.tmod 86400 ∧ n.tmod 86400 < 86400 := by
  rcases Int.lt_or_le n 0 with h | h
  · have e : n.tmod 86400 = -((-n) % 86400) := by
      rw [← Int.tmod_eq_emod_of_nonneg (by omega : 0 ≤ -n), Int.neg_tmod, Int.neg_neg]
    omega
  · rw [Int.tmod_eq_emod_of_nonneg h]; omega
theorem tmod_mod (n : Int) : (n.tmod 86400 + 86400) % 86400 = n % 86400 := by
  rcases Int.lt_or_le n 0 with h | h
  · have e : n.tmod 86400 = -((-n) % 86400) := by
      rw [← Int.tmod_eq_emod_of_nonneg (by omega : 0 ≤ -n), Int.neg_tmod, Int.neg_neg]
    omega
  · rw [Int.tmod_eq_emod_of_nonneg h]; omega
theorem v_sec {h : AH} {T : List AV} {x y : Operand} {n : Int} {k : IntKind} (hx : aEval T x = .v (.int k (n.tmod 86400 + 86400))) (hy : aEval T y = .v (.int k 86400)) : aval h (aEval T) (.bin .rem x y) = some (.v (.int k (n % 86400))) := by
  rw [v_rem hx hy (by have := tmod_bd n; omega) (by omega), tmod_mod]
theorem v_quoX {h : AH} {T : List AV} {x y : Operand} {a b q : Int} (hx : aEval T x = iv a) (hy : aEval T y = iv b) (hb : b ≠ 0) (hq : a = b * q) (h1 : -9223372036854775808 ≤ q) (h2 : q ≤ 9223372036854775807) : aval h (aEval T) (.bin .quo x y) = some (iv q) := by
  rw [v_quow hx hy hb, hq, Int.mul_tdiv_cancel_left _ hb, w64 h1 h2]
def inD (n : Int) : Prop := -719162 ≤ n ∧ n ≤ 2932896
instance (n : Int) : Decidable (inD n) := by unfold inD; infer_instance
def shD (n : Int) : Int × Int × Int := if inD (n / 86400) then dateOf (n / 86400) else (0, 0, 0)
def shS (n : Int) : Int := if inD (n / 86400) then n % 86400 else 0
def shE (n : Int) : Int := if inD (n / 86400) then 0 else 3
theorem shown_a {n : Int} {h : AH} (h0 : -1000000000000000 ≤ n) (h1 : n ≤ 1000000000000000) : ACalls Try.prog 50 [iv n] h fun x h' => h' = h ∧ x = .ret (.tup [dateA (shD n), iv (shS n), iv (shE n)]) := by
  have hb := tmod_bd n
  refine i50 ?_
  intro N hn hlt hlA hbd
  try simp only [AV.bdL, AV.bd, and_true, true_and] at hbd
  refine w_seq ?_
  refine w_reg ?_
  refine s_eff rfl rfl (e_new (hl0 hn) ha0) pt2 ?_
  refine s_val rfl (v_mv lki) pt3 ?_
  refine s_val rfl (v_mv lki) pt4 ?_
  refine s_nil ?_
  refine n_seq ?_
  refine w_seq ?_
  refine w_reg ?_
  refine s_val rfl (v_mv lk0) pt8 ?_
  refine s_val rfl (v_remw lk8 lki (by omega)) pt9 ?_
  refine s_val rfl (v_add lk9 lki (by omega) (by omega)) pt10 ?_
  refine s_val rfl (v_sec lk10 lki) pt11 ?_
  refine s_val rfl (v_mv lk11) pt5 ?_
  refine s_nil ?_
  refine n_seq ?_
  refine w_seq ?_
  refine w_reg ?_
  refine s_val rfl (v_mv lk0) pt13 ?_
  refine s_val rfl (v_mv lk5) pt14 ?_
  refine s_val rfl (v_sub lk13 lk14 (by omega) (by omega)) pt15 ?_
  refine s_val rfl (v_quoX (q := n / 86400) lk15 lki (by omega) (by omega) (by omega) (by omega)) pt16 ?_
  refine s_callp (mp1 lk16 mp0) (of_a) pt17 ?_
  refine s_val rfl (v_mv lk17) pt12 ?_
  refine s_val rfl (v_ext lk12 gt0) pt18 ?_
  refine s_val rfl (v_ext lk12 gt1) pt19 ?_
  refine s_eff rfl rfl (e_new (hl1 hn) ha1) pt6 ?_
  refine s_eff rfl rfl (e_store lk6 (cvl lk18 rfl) (hga hn rfl) rfl (Nat.le_of_ble_eq_true rfl) rfl ALocal_sc0_3 (hs1 hn)) ptn ?_
  refine s_val rfl (v_mv lk19) pt7 ?_
  refine s_nil ?_
  refine n_seq ?_
  refine w_seq ?_
  refine w_seq ?_
  refine w_reg ?_
  refine s_val rfl (v_mv lk7) pt20 ?_
  refine s_val rfl (v_neq lk20 lki) pt21 ?_
  refine s_nil ?_
  refine n_seq ?_
  first | refine w_cond lk21 (fun hc1 => ?_) (fun hc1 => ?_) | refine w_condB lk21 (fun hc1 => ?_) (fun hc1 => ?_)
  · skip
    have hno : ¬ inD (n / 86400) := by intro e; unfold inD at e; rw [if_pos e] at hc1; exact hc1 rfl
    refine w_seq ?_
    refine w_reg ?_
    refine s_val rfl (v_build ALocal_Shown_22) pt22 ?_
    refine s_val rfl (v_mv lk7) pt23 ?_
    refine s_eff rfl rfl (e_store lk2 (cvl lk22 rfl) (hga hn rfl) rfl (Nat.le_of_ble_eq_true rfl) rfl ALocal_sc0_3 (hs0 hn)) ptn ?_
    refine s_val rfl (v_mv lki) pt3 ?_
    refine s_val rfl (v_mv lk23) pt4 ?_
    refine s_nil ?_
    refine n_seq ?_
    refine w_rets ?_
    refine r_thn ?_
    refine w_ret (rsn (rm1 (rr_c gt2 (hga hn rfl) (ld1 ALocal_tk0_3 rfl)) (rm1 (rr_t gt3) (rm1 (rr_t gt4) rm0)))) ?_
    refine rt (by first | rfl | (simp only [AV.lt, AV.ltL, Ent.lt, List.all_cons, List.all_nil, Bool.and_true, Bool.and_self, decide_true, chg_lt, nm_lt]; done) | (simp [AV.lt, AV.ltL, Ent.lt, chg_lt, nm_lt, *]; done) | (simp [AV.lt, AV.ltL, Ent.lt, chg_lt, nm_lt, *]; omega)) ?_
    unfold shD shS shE; rw [if_neg hno, if_neg hno, if_neg hno]; rw [if_neg (show ¬ (-719162 ≤ n / 86400 ∧ n / 86400 ≤ 2932896) from hno)]
  · skip
    have hyes : inD (n / 86400) := Decidable.byContradiction (fun e => hc1 (by unfold inD at e; rw [if_neg e]; decide))
    refine w_skip ?_
    refine n_seq ?_
    refine w_seq ?_
    refine w_reg ?_
    refine s_val rfl (v_loadpA lk6 (hga hn rfl) ALocal_tk0_3 rfl) pt24 ?_
    refine s_val rfl (v_mv lk5) pt25 ?_
    refine s_eff rfl rfl (e_store lk2 (cvl lk24 rfl) (hga hn rfl) rfl (Nat.le_of_ble_eq_true rfl) rfl ALocal_sc0_3 (hs0 hn)) ptn ?_
    refine s_val rfl (v_mv lk25) pt3 ?_
    refine s_val rfl (v_mv lki) pt4 ?_
    refine s_nil ?_
    refine n_seq ?_
    refine w_rets ?_
    refine w_ret (rsn (rm1 (rr_c gt2 (hga hn rfl) (ld1 ALocal_tk0_3 rfl)) (rm1 (rr_t gt3) (rm1 (rr_t gt4) rm0)))) ?_
    refine rt (by first | rfl | (simp only [AV.lt, AV.ltL, Ent.lt, List.all_cons, List.all_nil, Bool.and_true, Bool.and_self, decide_true, chg_lt, nm_lt]; done) | (simp [AV.lt, AV.ltL, Ent.lt, chg_lt, nm_lt, *]; done) | (simp [AV.lt, AV.ltL, Ent.lt, chg_lt, nm_lt, *]; omega)) ?_
    unfold shD shS shE; rw [if_pos hyes, if_pos hyes, if_pos hyes]; rw [if_pos (show -719162 ≤ n / 86400 ∧ n / 86400 ≤ 2932896 from hyes)]
theorem lastL_locE {a : Loc} {l : List Chg} (ha : locE a = 0) (hl : ∀ x ∈ l, locE x.2 = 0) : locE (lastL a l) = 0 := by
  induction l generalizing a with
  | nil => exact ha
  | cons c l ih => exact ih (hl c (by simp)) (fun x hx => hl x (by simp [hx]))
theorem thereL_locE {t : Tab} (h : checkT t = 0) (n : Int) : locE (thereL t n) = 0 := by
  obtain ⟨_, h2, h3⟩ := checkT_all h
  exact lastL_locE h2 (fun x hx => (h3 x (List.mem_of_mem_take hx)).2)
def lookE (t : Tab) (n : Int) : Int := if checkT t ≠ 0 then checkT t else if timeB n = true then 0 else 3
def wallD (t : Tab) (n : Int) : Int × Int × Int := if lookE t n = 0 then shD (n + (thereL t n).1) else (0, 0, 0)
def wallS (t : Tab) (n : Int) : Int := if lookE t n = 0 then shS (n + (thereL t n).1) else 0
def wallE (t : Tab) (n : Int) : Int := if lookE t n = 0 then shE (n + (thereL t n).1) else lookE t n
theorem lookE_ok {t : Tab} {n : Int} (h : lookE t n = 0) : checkT t = 0 ∧ timeB n = true := by
  unfold lookE at h
  split at h
  · rename_i h1; exact absurd h h1
  · rename_i h1
    split at h
    · rename_i h2; exact ⟨Decidable.of_not_not h1, h2⟩
    · cases h
theorem wall_a {t : Tab} {n : Int} {full : Bool} {h : AH} (ht : okT t) :
    ACalls Try.prog 25 [.agg [iv t.1.1, iv t.1.2.1, sv t.1.2.2, .sl t.2.length 4 full (rows chgC t.2)], iv n] h fun x h' => h' = h ∧ x = .ret (.tup [dateA (wallD t n), iv (wallS t n), iv (wallE t n)]) := by
  refine i25 ?_
  intro N hn hlt hlA hbd
  try simp only [AV.bdL, AV.bd, and_true, true_and] at hbd
  refine w_seq ?_
  refine w_reg ?_
  refine s_eff rfl rfl (e_box (cvl lk0 rfl) rfl (hl0 hn) ha0) pt2 ?_
  refine s_eff rfl rfl (e_new (hl1 hn) ha1) pt4 ?_
  refine s_val rfl (v_mv lki) pt5 ?_
  refine s_val rfl (v_mv lki) pt6 ?_
  refine s_nil ?_
  refine n_seq ?_
  refine w_seq ?_
  refine w_reg ?_
  refine s_val rfl (v_loadpA lk2 (hga hn rfl) ALocal_tk0_4 rfl) pt10 ?_
  refine s_val rfl (v_mv lk1) pt11 ?_
  refine s_callp (mp1 lk10 (mp1 lk11 mp0)) (look_a (t := t) ht) pt12 ?_
  refine s_val rfl (v_mv lk12) pt9 ?_
  refine s_val rfl (v_ext lk9 gt0) pt13 ?_
  refine s_val rfl (v_ext lk9 gt1) pt14 ?_
  refine s_eff rfl rfl (e_new (hl2 hn) ha2) pt7 ?_
  refine s_eff rfl rfl (e_store lk7 (cvl lk13 rfl) (hga hn rfl) rfl (Nat.le_of_ble_eq_true rfl) rfl ALocal_sc0_3 (hs2 hn)) ptn ?_
  refine s_val rfl (v_mv lk14) pt8 ?_
  refine s_nil ?_
  refine n_seq ?_
  refine w_seq ?_
  refine w_seq ?_
  refine w_reg ?_
  refine s_val rfl (v_mv lk8) pt15 ?_
  refine s_val rfl (v_neq lk15 lki) pt16 ?_
  refine s_nil ?_
  refine n_seq ?_
  first | refine w_cond lk16 (fun hc1 => ?_) (fun hc1 => ?_) | refine w_condB lk16 (fun hc1 => ?_) (fun hc1 => ?_)
  · skip
    have hv : lookE t n ≠ 0 := hc1
    refine w_seq ?_
    refine w_reg ?_
    refine s_val rfl (v_build ALocal_Wall_16) pt17 ?_
    refine s_val rfl (v_mv lk8) pt18 ?_
    refine s_eff rfl rfl (e_store lk4 (cvl lk17 rfl) (hga hn rfl) rfl (Nat.le_of_ble_eq_true rfl) rfl ALocal_sc0_3 (hs1 hn)) ptn ?_
    refine s_val rfl (v_mv lki) pt5 ?_
    refine s_val rfl (v_mv lk18) pt6 ?_
    refine s_nil ?_
    refine n_seq ?_
    refine w_rets ?_
    refine r_thn ?_
    refine w_ret (rsn (rm1 (rr_c gt4 (hga hn rfl) (ld1 ALocal_tk0_3 rfl)) (rm1 (rr_t gt5) (rm1 (rr_t gt6) rm0)))) ?_
    refine rt (by first | rfl | (simp only [AV.lt, AV.ltL, Ent.lt, List.all_cons, List.all_nil, Bool.and_true, Bool.and_self, decide_true, chg_lt, nm_lt]; done) | (simp [AV.lt, AV.ltL, Ent.lt, chg_lt, nm_lt, *]; done) | (simp [AV.lt, AV.ltL, Ent.lt, chg_lt, nm_lt, *]; omega)) ?_
    unfold wallD wallS wallE; rw [if_neg hv, if_neg hv, if_neg hv]; rfl
  · skip
    have hv : lookE t n = 0 := Decidable.of_not_not hc1
    obtain ⟨hv1, hv2⟩ := lookE_ok hv
    have hls := locE_ok (thereL_locE hv1 n)
    have hbt := timeB_iff.1 hv2
    have hif : (if checkT t = 0 ∧ timeB n = true then thereL t n else (0, 0, ⟨#[]⟩)) = thereL t n := if_pos ⟨hv1, hv2⟩
    rw [hif]
    refine w_skip ?_
    refine n_seq ?_
    refine w_seq ?_
    refine w_reg ?_
    refine s_val rfl (v_mv lk1) pt19 ?_
    refine s_val rfl (v_fap0 lk7) pt20 ?_
    refine s_val rfl (v_loadp lk20 (hga hn rfl) gt0) pt21 ?_
    refine s_val rfl (v_add lk19 lk21 (by omega) (by omega)) pt22 ?_
    refine s_callp (mp1 lk22 mp0) (shown_a (n := n + (thereL t n).1) (by omega) (by omega)) pt23 ?_
    refine s_val rfl (v_ext lk23 gt0) pt24 ?_
    refine s_val rfl (v_ext lk23 gt1) pt25 ?_
    refine s_val rfl (v_ext lk23 gt2) pt26 ?_
    refine s_eff rfl rfl (e_store lk4 (cvl lk24 rfl) (hga hn rfl) rfl (Nat.le_of_ble_eq_true rfl) rfl ALocal_sc0_3 (hs1 hn)) ptn ?_
    refine s_val rfl (v_mv lk25) pt5 ?_
    refine s_val rfl (v_mv lk26) pt6 ?_
    refine s_nil ?_
    refine n_seq ?_
    refine w_rets ?_
    refine w_ret (rsn (rm1 (rr_c gt4 (hga hn rfl) (ld1 ALocal_tk0_3 rfl)) (rm1 (rr_t gt5) (rm1 (rr_t gt6) rm0)))) ?_
    refine rt (by first | rfl | (simp only [AV.lt, AV.ltL, Ent.lt, List.all_cons, List.all_nil, Bool.and_true, Bool.and_self, decide_true, chg_lt, nm_lt]; done) | (simp [AV.lt, AV.ltL, Ent.lt, chg_lt, nm_lt, *]; done) | (simp [AV.lt, AV.ltL, Ent.lt, chg_lt, nm_lt, *]; omega)) ?_
    unfold wallD wallS wallE; rw [if_pos hv, if_pos hv, if_pos hv]
def fitsB (t : Tab) (n s : Int) : Bool := timeB (n - s) && decide ((thereL t (n - s)).1 = s)
def wl (t : Tab) (n : Int) (L : List Int) : List Int := (L.filter (fitsB t n)).map (n - ·)
def whenL (t : Tab) (n : Int) : List Int := sortI (wl t n (shI t))
theorem mem_sortI {l : List Int} {x : Int} : x ∈ sortI l ↔ x ∈ l := List.mem_mergeSort
theorem mem_shI {t : Tab} {x : Int} : x ∈ shI t ↔ x = t.1.1 ∨ ∃ c ∈ t.2, c.2.1 = x := by
  unfold shI
  rw [mem_sortI, mem_dd]
  simp
theorem dd_len : ∀ l : List Int, (dd l).length ≤ l.length
  | [] => Nat.le_refl _
  | a :: l => by
    have := dd_len l
    unfold dd
    split <;> simp <;> omega
theorem shI_len (t : Tab) : (shI t).length ≤ 1 + t.2.length := by
  unfold shI
  rw [sortI_len]
  have := dd_len (t.1.1 :: t.2.map (·.2.1))
  simp at this
  omega
theorem wl_len (t : Tab) (n : Int) (L : List Int) : (wl t n L).length ≤ L.length := by
  unfold wl
  rw [List.length_map]
  exact List.length_filter_le _ _
theorem wl_snoc {t : Tab} {n s : Int} {L : List Int} : wl t n (L ++ [s]) = wl t n L ++ (if fitsB t n s then [n - s] else []) := by
  unfold wl
  rw [List.filter_append, List.map_append]
  congr 1
  cases h : fitsB t n s <;> simp [h]
theorem shI_bd {t : Tab} (h : checkT t = 0) : ∀ x ∈ shI t, -75600 ≤ x ∧ x ≤ 75600 := by
  obtain ⟨_, h2, h3⟩ := checkT_all h
  intro x hx
  rcases mem_shI.1 hx with rfl | ⟨c, hc, rfl⟩
  · exact (locE_ok h2).1
  · exact (locE_ok (h3 c hc).2).1
theorem wtimes_a {t : Tab} {n : Int} {full : Bool} {h : AH} (hv : checkT t = 0) (h0 : -1000000000000000 ≤ n) (h1 : n ≤ 1000000000000000) :
    ACalls Try.prog 52 [.agg [iv t.1.1, iv t.1.2.1, sv t.1.2.2, .sl t.2.length 4 full (rows chgC t.2)], iv n] h fun x h' => h' = h ∧ x = .ret (.sl (whenL t n).length 1 false (rows intC (whenL t n))) := by
  have hl := checkT_len hv
  have hsl := shI_len t
  refine i52 ?_
  intro N hn hlt hlA hbd
  try simp only [AV.bdL, AV.bd, and_true, true_and] at hbd
  refine w_seq ?_
  refine w_reg ?_
  refine s_eff rfl rfl (e_box (cvl lk0 rfl) rfl (hl0 hn) ha0) pt2 ?_
  refine s_val rfl (v_mv lkn) pt4 ?_
  refine s_nil ?_
  refine n_seq ?_
  refine w_seq ?_
  refine w_reg ?_
  refine s_val rfl (v_mv lkn) pt5 ?_
  refine s_nil ?_
  refine n_seqw (ALe.own0' (st' := 1) (ty := 3) gt5 (hl1 hn) pt5 ha1) ?_
  refine w_seq ?_
  refine w_seq ?_
  refine w_reg ?_
  refine s_val rfl (v_loadpA lk2 (hga hn rfl) ALocal_tk0_4 rfl) pt9 ?_
  refine s_callp (mp1 lk9 mp0) (shifts_a (t := t) hv) pt10 ?_
  refine s_val rfl (v_lenL lk10) pt11 ?_
  refine s_val rfl (v_mv lki) pt12 ?_
  refine s_nil ?_
  refine n_seq ?_
  refine w_block ?_
  refine w_loop (ι := Nat × Nat) (fun (x_ : Nat × Nat) => match x_ with | ⟨k, v⟩ => [(5, .own (N + 1) v (wl t n ((shI t).take k)).length), (12, iv (k : Int)), (7, .any), (8, .any), (13, .any), (14, .any), (15, .any), (16, .any), (17, .any), (18, .any), (19, .any), (20, .any), (21, .any), (22, .any), (23, .any), (24, .any), (25, .any), (26, .any), (27, .any), (28, .any), (29, .any), (30, .any), (31, .any), (32, .any), (33, .any)]) (fun (x_ : Nat × Nat) => match x_ with | ⟨k, v⟩ => [(1, .mk v 3 1 (rows intC (wl t n ((shI t).take k))))]) (fun (x_ : Nat × Nat) => match x_ with | ⟨k, v⟩ => k ≤ (shI t).length) (fun (x_ : Nat × Nat) => match x_ with | ⟨k, v⟩ => (shI t).length - k) (⟨0, 0⟩) (by exact Nat.zero_le _) (by try simp only [setsT, setsE, List.set_cons_zero, List.set_cons_succ]; exact ALe.same (wk1 rfl (wk1 rfl (wk1 rfl (wk1 rfl (wk1 rfl (wk1 (by first | rfl | exact ivx (by omega) | (simp; done)) (wk1 rfl (wka (wka (wk1 rfl (wk1 rfl (wk1 rfl (wk1 (by first | rfl | exact ivx (by omega) | (simp; done)) (wka (wka (wka (wka (wka (wka (wka (wka (wka (wka (wka (wka (wka (wka (wka (wka (wka (wka (wka (wka (wka (wk1 rfl (wk1 rfl (wk1 rfl wk0))))))))))))))))))))))))))))))))))))) rfl) ?_
  rintro ⟨k, v⟩ hi1
  try simp only [setsT, setsE, List.set_cons_zero, List.set_cons_succ]
  refine w_seq ?_
  refine w_reg ?_
  refine s_val rfl (v_lss lk12 lk11) pt13 ?_
  refine s_nil ?_
  refine n_seq ?_
  refine w_seq ?_
  first | refine w_cond lk13 (fun hc1 => ?_) (fun hc1 => ?_) | refine w_condB lk13 (fun hc1 => ?_) (fun hc1 => ?_)
  · skip
    have hk : k < (shI t).length := by omega
    have hbs := shI_bd hv _ (List.getElem_mem hk)
    have hst : (shI t).take (k + 1) = (shI t).take k ++ [(shI t)[k]] := List.take_succ_eq_append_getElem hk
    have hwl := wl_len t n ((shI t).take k)
    have htl : ((shI t).take k).length ≤ k := by rw [List.length_take]; omega
    refine w_skip ?_
    refine n_seq ?_
    refine w_seq ?_
    refine w_block ?_
    refine w_seq ?_
    refine w_reg ?_
    refine s_val rfl (v_iaR lk10 lk12 int_len1 (Nat.le_of_ble_eq_true rfl) (by first | rfl | omega) (by omega) (by first | rfl | omega) rfl) pt14 ?_
    refine s_val rfl (v_loadr lk14 gt0) pt15 ?_
    refine s_val rfl (v_mv lk15) pt7 ?_
    refine s_nil ?_
    refine n_seq ?_
    refine w_seq ?_
    refine w_reg ?_
    refine s_val rfl (v_mv lk1) pt16 ?_
    refine s_val rfl (v_mv lk7) pt17 ?_
    refine s_val rfl (v_sub lk16 lk17 (by omega) (by omega)) pt18 ?_
    refine s_val rfl (v_mv lk18) pt8 ?_
    refine s_nil ?_
    refine n_seq ?_
    refine w_seq ?_
    refine w_reg ?_
    refine s_val rfl (v_mv lk8) pt19 ?_
    refine s_callp (mp1 lk19 mp0) (time_a) pt20 ?_
    refine s_val rfl (v_mv lk20) pt21 ?_
    refine s_splitB gt21 pt21 pt21 (fun hg21 => ?_) (fun hg21 => ?_)
    · skip
      refine s_do gt21 ?_
      refine s_val rfl (v_loadpA lk2 (hga hn rfl) ALocal_tk0_4 rfl) pt22 ?_
      refine s_do gt21 ?_
      refine s_val rfl (v_mv lk8) pt23 ?_
      refine s_do gt21 ?_
      refine s_callp (mp1 lk22 (mp1 lk23 mp0)) (there_a (t := t) (by omega)) pt24 ?_
      refine s_do gt21 ?_
      refine s_val rfl (v_fld lk24 gt0) pt25 ?_
      refine s_do gt21 ?_
      refine s_val rfl (v_mv lk7) pt26 ?_
      refine s_do gt21 ?_
      refine s_val rfl (v_eql lk25 lk26) pt27 ?_
      refine s_val rfl (v_pickT lk21 lk27) pt28 ?_
      refine s_nil ?_
      refine n_seq ?_
      first | refine w_cond lk28 (fun hc2 => ?_) (fun hc2 => ?_) | refine w_condB lk28 (fun hc2 => ?_) (fun hc2 => ?_)
      · skip
        have hE : wl t n ((shI t).take (k + 1)) = wl t n ((shI t).take k) ++ [n - (shI t)[k]] := by rw [hst, wl_snoc, if_pos (by unfold fitsB; simp [hg21, hc2])]
        refine w_reg ?_
        refine s_val rfl (v_mv lk5) pt29 ?_
        refine s_val rfl (v_mv lk8) pt30 ?_
        refine s_eff rfl rfl (e_lit (ALocal_Times_28 (cvl lk30 rfl) rfl) (hl2 hn) ha2) pt31 ?_
        refine s_eff rfl rfl (e_app (sc_own lk31 (hga hn rfl) rfl ALocal_tk_1 (Nat.le_of_ble_eq_true rfl)) lk29 (hga hn rfl) (int_len _) (by omega) rfl (hs1 hn)) pt32 ?_
        refine s_val rfl (v_mv lk32) pt5 ?_
        refine s_nil ?_
        refine n_blk ?_
        refine n_seq ?_
        refine w_reg ?_
        refine s_val rfl (v_add lk12 lki (by omega) (by omega)) pt33 ?_
        refine s_val rfl (v_mv lk33) pt12 ?_
        refine s_nil ?_
        refine n_thn ?_
        refine LoopTo.mk (⟨k + 1, v + 1⟩) (by omega) (by (try dsimp only); omega) (by (try dsimp only); (try simp only [setsT, setsE, List.set_cons_zero, List.set_cons_succ]); exact ALe.back (wk1 rfl (wk1 rfl (wk1 rfl (wk1 rfl (wk1 rfl (wk1 (by first | rfl | exact ivx (by omega) | (rw [hE]; done) | (rw [hE, List.length_append]; rfl)) (wk1 rfl (wka (wka (wk1 rfl (wk1 rfl (wk1 rfl (wk1 (by first | rfl | exact ivx (by omega) | (rw [hE]; done) | (rw [hE, List.length_append]; rfl)) (wka (wka (wka (wka (wka (wka (wka (wka (wka (wka (wka (wka (wka (wka (wka (wka (wka (wka (wka (wka (wka (wk1 rfl (wk1 rfl (wk1 rfl wk0))))))))))))))))))))))))))))))))))))) (by simp only [hE, rows_app, rows_one]; try rfl) (k := N + 2) (by simp only [List.length_cons, List.length_nil, hn]) (by omega) (by first | rfl | (simp only [AV.lt, AV.ltL, Ent.lt, List.all_cons, List.all_nil, Bool.and_true, Bool.and_self, decide_true, chg_lt, nm_lt, int_lt]; done) | (simp [AV.lt, AV.ltL, Ent.lt, chg_lt, nm_lt, int_lt, *]; done) | (simp [AV.lt, AV.ltL, Ent.lt, chg_lt, nm_lt, int_lt, *]; omega)) (ltw (by omega) hlt) (by first | rfl | (simp only [AV.lt, AV.ltL, Ent.lt, List.all_cons, List.all_nil, Bool.and_true, Bool.and_self, decide_true, chg_lt, nm_lt, int_lt]; done) | (simp [AV.lt, AV.ltL, Ent.lt, chg_lt, nm_lt, int_lt, *]; done) | (simp [AV.lt, AV.ltL, Ent.lt, chg_lt, nm_lt, int_lt, *]; omega)))
      · skip
        have hE : wl t n ((shI t).take (k + 1)) = wl t n ((shI t).take k) := by rw [hst, wl_snoc, if_neg (by unfold fitsB; simp [hg21, hc2]), List.append_nil]
        refine w_skip ?_
        refine n_blk ?_
        refine n_seq ?_
        refine w_reg ?_
        refine s_val rfl (v_add lk12 lki (by omega) (by omega)) pt33 ?_
        refine s_val rfl (v_mv lk33) pt12 ?_
        refine s_nil ?_
        refine n_thn ?_
        refine LoopTo.mk (⟨k + 1, v⟩) (by omega) (by (try dsimp only); omega) (by (try dsimp only); (try simp only [setsT, setsE, List.set_cons_zero, List.set_cons_succ]); exact ALe.same (wk1 rfl (wk1 rfl (wk1 rfl (wk1 rfl (wk1 rfl (wk1 (by first | rfl | exact ivx (by omega) | (rw [hE]; done) | (rw [hE, List.length_append]; rfl)) (wk1 rfl (wka (wka (wk1 rfl (wk1 rfl (wk1 rfl (wk1 (by first | rfl | exact ivx (by omega) | (rw [hE]; done) | (rw [hE, List.length_append]; rfl)) (wka (wka (wka (wka (wka (wka (wka (wka (wka (wka (wka (wka (wka (wka (wka (wka (wka (wka (wka (wka (wka (wk1 rfl (wk1 rfl (wk1 rfl wk0))))))))))))))))))))))))))))))))))))) (by simp only [hE, rows_app, rows_one]; try rfl))
    · skip
      have hE : wl t n ((shI t).take (k + 1)) = wl t n ((shI t).take k) := by rw [hst, wl_snoc, if_neg (by unfold fitsB; simp [hg21]), List.append_nil]
      refine s_no gt21 pt22 ?_
      refine s_no gt21 pt23 ?_
      refine s_no gt21 pt24 ?_
      refine s_no gt21 pt25 ?_
      refine s_no gt21 pt26 ?_
      refine s_no gt21 pt27 ?_
      refine s_val rfl (v_pickF lk21 lkb) pt28 ?_
      refine s_nil ?_
      refine n_seq ?_
      refine w_condF lk28 ?_
      refine w_skip ?_
      refine n_blk ?_
      refine n_seq ?_
      refine w_reg ?_
      refine s_val rfl (v_add lk12 lki (by omega) (by omega)) pt33 ?_
      refine s_val rfl (v_mv lk33) pt12 ?_
      refine s_nil ?_
      refine n_thn ?_
      refine LoopTo.mk (⟨k + 1, v⟩) (by omega) (by (try dsimp only); omega) (by (try dsimp only); (try simp only [setsT, setsE, List.set_cons_zero, List.set_cons_succ]); exact ALe.same (wk1 rfl (wk1 rfl (wk1 rfl (wk1 rfl (wk1 rfl (wk1 (by first | rfl | exact ivx (by omega) | (rw [hE]; done) | (rw [hE, List.length_append]; rfl)) (wk1 rfl (wka (wka (wk1 rfl (wk1 rfl (wk1 rfl (wk1 (by first | rfl | exact ivx (by omega) | (rw [hE]; done) | (rw [hE, List.length_append]; rfl)) (wka (wka (wka (wka (wka (wka (wka (wka (wka (wka (wka (wka (wka (wka (wka (wka (wka (wka (wka (wka (wka (wk1 rfl (wk1 rfl (wk1 rfl wk0))))))))))))))))))))))))))))))))))))) (by simp only [hE, rows_app, rows_one]; try rfl))
  · skip
    have hkl : k = (shI t).length := by omega
    have hwl := wl_len t n ((shI t).take k)
    have htl : (shI t).take k = shI t := List.take_of_length_le (by omega)
    rw [htl] at hwl
    simp only [htl]
    refine w_exit ?_
    refine x_thn ?_
    refine x_thn ?_
    refine x_blk ?_
    refine n_seq ?_
    refine w_seq ?_
    refine w_reg ?_
    refine s_val rfl (v_mv lk5) pt34 ?_
    refine s_calls (mp1 lk34 mp0) (sort_a (l := wl t n (shI t)) (hga hn rfl) (by omega)) (hs1 hn) pt35 ?_
    refine s_nil ?_
    skip
    refine n_seqw (ALe.iceR (hga hn rfl) gt5 (List.take_of_length_le (by rw [int_len, sortI_len]; exact Nat.le_refl _)) (by rw [int_len, sortI_len]; exact Nat.le_refl _) pt5 (hs1 hn)) ?_
    refine w_seq ?_
    refine w_reg ?_
    refine s_val rfl (v_mv lk5) pt36 ?_
    refine s_val rfl (v_mv lk36) pt4 ?_
    refine s_nil ?_
    refine n_seq ?_
    refine w_rets ?_
    refine w_ret (rs1 (rr_t gt4)) ?_
    refine rt (by first | rfl | (simp only [AV.lt, AV.ltL, Ent.lt, List.all_cons, List.all_nil, Bool.and_true, Bool.and_self, decide_true, chg_lt, nm_lt, int_lt]; done) | (simp [AV.lt, AV.ltL, Ent.lt, chg_lt, nm_lt, int_lt, *]; done) | (simp [AV.lt, AV.ltL, Ent.lt, chg_lt, nm_lt, int_lt, *]; omega)) ?_
    show AV.sl _ 1 false _ = _
    rw [show (wl t n (shI t)).length = (whenL t n).length from (sortI_len _).symm]
    rfl
def whenE (t : Tab) (d : Int × Int × Int) (s : Int) : Int := if checkT t ≠ 0 then checkT t else if isDate d.1 d.2.1 d.2.2 = true ∧ 0 ≤ s ∧ s < 86400 then 0 else 3
def whenV (t : Tab) (d : Int × Int × Int) (s : Int) : List Int := if whenE t d s = 0 then whenL t (num d.1 d.2.1 d.2.2 * 86400 + s) else []
theorem when_a {t : Tab} {y m d s : Int} {full : Bool} {h : AH} (ht : okT t) :
    ACalls Try.prog 26 [.agg [iv t.1.1, iv t.1.2.1, sv t.1.2.2, .sl t.2.length 4 full (rows chgC t.2)], .agg [iv y, iv m, iv d], iv s] h fun x h' => h' = h ∧ x = .ret (.tup [.sl (whenV t (y, m, d) s).length 1 false (rows intC (whenV t (y, m, d) s)), iv (whenE t (y, m, d) s)]) := by
  refine w26 ?_
  intro N hn hlt hlA hbd
  try simp only [AV.bdL, AV.bd, and_true, true_and] at hbd
  refine w_seq ?_
  refine w_reg ?_
  refine s_eff rfl rfl (e_box (cvl lk0 rfl) rfl (hl0 hn) ha0) pt3 ?_
  refine s_eff rfl rfl (e_box (cvl lk1 rfl) rfl (hl1 hn) ha1) pt4 ?_
  refine s_val rfl (v_mv lkn) pt6 ?_
  refine s_val rfl (v_mv lki) pt7 ?_
  refine s_nil ?_
  refine n_seq ?_
  refine w_seq ?_
  refine w_seq ?_
  refine w_reg ?_
  refine s_val rfl (v_loadpA lk3 (hga hn rfl) ALocal_tk0_4 rfl) pt11 ?_
  refine s_callp (mp1 lk11 mp0) (check_a (l := t.2) ht.1 ht.2) pt12 ?_
  refine s_val rfl (v_mv lk12) pt8 ?_
  refine s_nil ?_
  refine n_seq ?_
  refine w_seq ?_
  refine w_reg ?_
  refine s_val rfl (v_mv lk8) pt13 ?_
  refine s_val rfl (v_neq lk13 lki) pt14 ?_
  refine s_nil ?_
  refine n_seq ?_
  first | refine w_cond lk14 (fun hc1 => ?_) (fun hc1 => ?_) | refine w_condB lk14 (fun hc1 => ?_) (fun hc1 => ?_)
  · skip
    have hv : checkT t ≠ 0 := hc1
    have he : whenE t (y, m, d) s = checkT t := if_pos hv
    refine w_seq ?_
    refine w_reg ?_
    refine s_val rfl (v_mv lk8) pt15 ?_
    refine s_val rfl (v_mv lkn) pt6 ?_
    refine s_val rfl (v_mv lk15) pt7 ?_
    refine s_nil ?_
    refine n_seq ?_
    refine w_rets ?_
    refine r_thn ?_
    refine w_ret (rsn (rm1 (rr_t gt6) (rm1 (rr_t gt7) rm0))) ?_
    refine rtw (by first | rfl | (simp only [AV.lt, AV.ltL, Ent.lt, List.all_cons, List.all_nil, Bool.and_true, Bool.and_self, decide_true, chg_lt, nm_lt, int_lt]; done) | (simp [AV.lt, AV.ltL, Ent.lt, chg_lt, nm_lt, int_lt, *]; done) | (simp [AV.lt, AV.ltL, Ent.lt, chg_lt, nm_lt, int_lt, *]; omega)) ?_
    rw [whenV, if_neg (by rw [he]; exact hv), he]; exact Wk.tup (wkw Wk.nilF (wk1 rfl wk0))
  · skip
    have hv : checkT t = 0 := Decidable.of_not_not hc1
    refine w_skip ?_
    refine n_seq ?_
    refine w_seq ?_
    refine w_reg ?_
    refine s_val rfl (v_loadpA lk4 (hga hn rfl) ALocal_tk0_3 rfl) pt17 ?_
    refine s_callp (mp1 lk17 mp0) (days_a) pt18 ?_
    skip
    refine s_val rfl (v_mv lk18) pt16 ?_
    refine s_val rfl (v_ext lk16 gt0) pt19 ?_
    refine s_val rfl (v_ext lk16 gt1) pt20 ?_
    refine s_val rfl (v_mv lk19) pt9 ?_
    refine s_val rfl (v_mv lk20) pt10 ?_
    refine s_nil ?_
    refine n_seq ?_
    refine w_seq ?_
    refine w_seq ?_
    refine w_reg ?_
    refine s_val rfl (v_mv lk10) pt21 ?_
    refine s_val rfl (v_eql lk21 lki) pt22 ?_
    refine s_val rfl (v_mv lk22) pt23 ?_
    first | refine s_splitP gt23 pt23 pt23 (fun hg23 => ?_) (fun hg23 => ?_) | refine s_splitB gt23 pt23 pt23 (fun hg23 => ?_) (fun hg23 => ?_)
    · skip
      have hd : isDate y m d = true := by cases hd : isDate y m d <;> simp [hd] at hg23 ⊢
      have hnb := num_bd hd
      refine s_do gt23 ?_
      refine s_val rfl (v_mv lk2) pt24 ?_
      refine s_do gt23 ?_
      refine s_val rfl (v_lss lk24 lki) pt25 ?_
      refine s_do gt23 ?_
      refine s_val rfl (v_mv lk25) pt26 ?_
      first | refine s_splitP gt26 pt26 pt26 (fun hg26 => ?_) (fun hg26 => ?_) | refine s_splitB gt26 pt26 pt26 (fun hg26 => ?_) (fun hg26 => ?_)
      · skip
        have he : whenE t (y, m, d) s = 3 := by rw [whenE, if_neg (by simpa using hv), if_neg (by omega)]
        refine s_no gt26 pt27 ?_
        refine s_no gt26 pt28 ?_
        refine s_do gt23 ?_
        refine s_val rfl (v_pickT lk26 lkb) pt29 ?_
        refine s_val rfl (v_pickT lk23 lk29) pt30 ?_
        refine s_nil ?_
        refine n_seq ?_
        refine w_condT lk30 ?_
        refine w_reg ?_
        refine s_val rfl (v_mv lki) pt10 ?_
        refine s_nil ?_
        refine n_seq ?_
        refine w_seq ?_
        refine w_seq ?_
        refine w_reg ?_
        refine s_val rfl (v_mv lk10) pt31 ?_
        refine s_val rfl (v_neq lk31 lki) pt32 ?_
        refine s_nil ?_
        refine n_seq ?_
        refine w_condK lk32 (by rfl) ?_
        refine w_seq ?_
        refine w_reg ?_
        refine s_val rfl (v_mv lk10) pt33 ?_
        refine s_val rfl (v_mv lkn) pt6 ?_
        refine s_val rfl (v_mv lk33) pt7 ?_
        refine s_nil ?_
        refine n_seq ?_
        refine w_rets ?_
        refine r_thn ?_
        refine w_ret (rsn (rm1 (rr_t gt6) (rm1 (rr_t gt7) rm0))) ?_
        refine rtw (by first | rfl | (simp only [AV.lt, AV.ltL, Ent.lt, List.all_cons, List.all_nil, Bool.and_true, Bool.and_self, decide_true, chg_lt, nm_lt, int_lt]; done) | (simp [AV.lt, AV.ltL, Ent.lt, chg_lt, nm_lt, int_lt, *]; done) | (simp [AV.lt, AV.ltL, Ent.lt, chg_lt, nm_lt, int_lt, *]; omega)) ?_
        rw [whenV, if_neg (by rw [he]; decide), he]; exact Wk.tup (wkw Wk.nilF (wk1 rfl wk0))
      · skip
        refine s_do gt26 ?_
        refine s_val rfl (v_mv lk2) pt27 ?_
        refine s_do gt26 ?_
        refine s_val rfl (v_geq lk27 lki) pt28 ?_
        refine s_do gt23 ?_
        refine s_val rfl (v_pickF lk26 lk28) pt29 ?_
        refine s_val rfl (v_pickT lk23 lk29) pt30 ?_
        refine s_nil ?_
        refine n_seq ?_
        first | refine w_cond lk30 (fun hc2 => ?_) (fun hc2 => ?_) | refine w_condB lk30 (fun hc2 => ?_) (fun hc2 => ?_)
        · skip
          have he : whenE t (y, m, d) s = 3 := by rw [whenE, if_neg (by simpa using hv), if_neg (by omega)]
          refine w_reg ?_
          refine s_val rfl (v_mv lki) pt10 ?_
          refine s_nil ?_
          refine n_seq ?_
          refine w_seq ?_
          refine w_seq ?_
          refine w_reg ?_
          refine s_val rfl (v_mv lk10) pt31 ?_
          refine s_val rfl (v_neq lk31 lki) pt32 ?_
          refine s_nil ?_
          refine n_seq ?_
          refine w_condK lk32 (by rfl) ?_
          refine w_seq ?_
          refine w_reg ?_
          refine s_val rfl (v_mv lk10) pt33 ?_
          refine s_val rfl (v_mv lkn) pt6 ?_
          refine s_val rfl (v_mv lk33) pt7 ?_
          refine s_nil ?_
          refine n_seq ?_
          refine w_rets ?_
          refine r_thn ?_
          refine w_ret (rsn (rm1 (rr_t gt6) (rm1 (rr_t gt7) rm0))) ?_
          refine rtw (by first | rfl | (simp only [AV.lt, AV.ltL, Ent.lt, List.all_cons, List.all_nil, Bool.and_true, Bool.and_self, decide_true, chg_lt, nm_lt, int_lt]; done) | (simp [AV.lt, AV.ltL, Ent.lt, chg_lt, nm_lt, int_lt, *]; done) | (simp [AV.lt, AV.ltL, Ent.lt, chg_lt, nm_lt, int_lt, *]; omega)) ?_
          rw [whenV, if_neg (by rw [he]; decide), he]; exact Wk.tup (wkw Wk.nilF (wk1 rfl wk0))
        · skip
          have he : whenE t (y, m, d) s = 0 := by rw [whenE, if_neg (by simpa using hv), if_pos ⟨hd, by omega, by omega⟩]
          refine w_skip ?_
          refine n_seq ?_
          refine w_seq ?_
          refine w_seq ?_
          refine w_reg ?_
          refine s_val rfl (v_mv lk10) pt31 ?_
          refine s_val rfl (v_neq lk31 lki) pt32 ?_
          refine s_nil ?_
          refine n_seq ?_
          refine w_condKF lk32 (by rw [hd]; rfl) ?_
          refine w_skip ?_
          refine n_seq ?_
          refine w_seq ?_
          refine w_reg ?_
          refine s_val rfl (v_loadpA lk3 (hga hn rfl) ALocal_tk0_4 rfl) pt34 ?_
          refine s_val rfl (v_mv lk9) pt35 ?_
          refine s_val rfl (v_mul lk35 lki (by omega) (by omega)) pt36 ?_
          refine s_val rfl (v_mv lk2) pt37 ?_
          refine s_val rfl (v_add lk36 lk37 (by omega) (by omega)) pt38 ?_
          refine s_callp (mp1 lk34 (mp1 lk38 mp0)) (wtimes_a (t := t) hv (by rw [hd]; simp only [if_true]; omega) (by rw [hd]; simp only [if_true]; omega)) pt39 ?_
          refine s_val rfl (v_mv lk39) pt6 ?_
          refine s_val rfl (v_mv lki) pt7 ?_
          refine s_nil ?_
          refine n_seq ?_
          refine w_rets ?_
          refine w_ret (rsn (rm1 (rr_t gt6) (rm1 (rr_t gt7) rm0))) ?_
          refine rtw (by first | rfl | (simp only [AV.lt, AV.ltL, Ent.lt, List.all_cons, List.all_nil, Bool.and_true, Bool.and_self, decide_true, chg_lt, nm_lt, int_lt]; done) | (simp [AV.lt, AV.ltL, Ent.lt, chg_lt, nm_lt, int_lt, *]; done) | (simp [AV.lt, AV.ltL, Ent.lt, chg_lt, nm_lt, int_lt, *]; omega)) ?_
          rw [whenV, if_pos he, he]; simp only [hd, if_true]; exact Wk.refl _
    · skip
      have hd : isDate y m d = false := by cases hd : isDate y m d <;> simp [hd] at hg23 ⊢
      have he : whenE t (y, m, d) s = 3 := by rw [whenE, if_neg (by simpa using hv), if_neg (by simp [hd])]
      refine s_no gt23 pt24 ?_
      refine s_no gt23 pt25 ?_
      refine s_no gt23 pt26 ?_
      refine s_nu gt26 pt27 ?_
      refine s_nu gt26 pt28 ?_
      refine s_no gt23 pt29 ?_
      refine s_val rfl (v_pickF lk23 lkb) pt30 ?_
      refine s_nil ?_
      refine n_seq ?_
      refine w_condF lk30 ?_
      refine w_skip ?_
      refine n_seq ?_
      refine w_seq ?_
      refine w_seq ?_
      refine w_reg ?_
      refine s_val rfl (v_mv lk10) pt31 ?_
      refine s_val rfl (v_neq lk31 lki) pt32 ?_
      refine s_nil ?_
      refine n_seq ?_
      refine w_condK lk32 (by rw [hd]; rfl) ?_
      refine w_seq ?_
      refine w_reg ?_
      refine s_val rfl (v_mv lk10) pt33 ?_
      refine s_val rfl (v_mv lkn) pt6 ?_
      refine s_val rfl (v_mv lk33) pt7 ?_
      refine s_nil ?_
      refine n_seq ?_
      refine w_rets ?_
      refine r_thn ?_
      refine w_ret (rsn (rm1 (rr_t gt6) (rm1 (rr_t gt7) rm0))) ?_
      refine rtw (by first | rfl | (simp only [AV.lt, AV.ltL, Ent.lt, List.all_cons, List.all_nil, Bool.and_true, Bool.and_self, decide_true, chg_lt, nm_lt, int_lt]; done) | (simp [AV.lt, AV.ltL, Ent.lt, chg_lt, nm_lt, int_lt, *]; done) | (simp [AV.lt, AV.ltL, Ent.lt, chg_lt, nm_lt, int_lt, *]; omega)) ?_
      rw [show (if isDate y m d = true then (0 : Int) else 3) = 3 from by rw [hd]; rfl, whenV, if_neg (by rw [he]; decide), he]; exact Wk.tup (wkw Wk.nilF (wk1 rfl wk0))
end Go.Proofs.Ytmbebimingkfeaa
