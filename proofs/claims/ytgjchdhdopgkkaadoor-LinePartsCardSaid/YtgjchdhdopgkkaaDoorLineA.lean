/-
  Contracts on plain data: line's splitter: what goes on, what is more, a field. Conditions: the text is no longer than 8000 bytes.
-/
import Derived.Test.YtgjchdhdopgkkaaDoorLnPlain
set_option linter.unusedVariables false
set_option linter.unusedSimpArgs false
set_option maxRecDepth 100000
namespace Go.Proofs.YtgjchdhdopgkkaaDoor
open Go.Ab
section
theorem LineA_sc1_1 {a0 a1 c0 : AV} {l : List AV} : setCells (a0 :: a1 :: l) 1 [c0] = a0 :: c0 :: l := rfl
end
/-- line.blank -/
def c15 : AC := (.seq (.reg [⟨(some 2), none, (.mv (.const (.bool false)))⟩]) (.seq (.reg [⟨(some 3), none, (.mv (.tmp 0))⟩, ⟨(some 4), none, (.bin .eql (.tmp 3) (.const (.int .u8 32)))⟩, ⟨(some 5), none, (.mv (.tmp 4))⟩, ⟨(some 6), (some (5, false)), (.mv (.tmp 0))⟩, ⟨(some 7), (some (5, false)), (.bin .eql (.tmp 6) (.const (.int .u8 9)))⟩, ⟨(some 8), none, (.pick (.tmp 5) (.const (.bool true)) (.tmp 7))⟩, ⟨(some 2), none, (.mv (.tmp 8))⟩]) .ret))
theorem k15 : compF Tryd.prog 15 = some ⟨c15, [(.tmp 2)], 9⟩ := by kernel_rfl
theorem i15 {a0 : AV} {h : AH} {R : AE → Prop} (hw : ∀ n, h.length = n → (∀ e ∈ h, e.lt n = true) → AV.ltL n [a0] = true → AV.bdL [a0] → aw Tryd.prog n c15 (retA [(.tmp 2)] fun x h' => ∃ z, h' = h ++ z ∧ x.lt n = true ∧ R x) [a0, .any, .any, .any, .any, .any, .any, .any, .any] (h ++ [])) : ACalls Tryd.prog 15 [a0] h fun x h' => h' = h ∧ R x := ACalls.into k15 rfl hw
theorem w15 {a0 : AV} {h : AH} {res : AV} (hw : ∀ n, h.length = n → (∀ e ∈ h, e.lt n = true) → AV.ltL n [a0] = true → AV.bdL [a0] → aw Tryd.prog n c15 (retA [(.tmp 2)] fun x h' => ∃ z, h' = h ++ z ∧ x.lt n = true ∧ ∃ c, x = .ret c ∧ Wk c res) [a0, .any, .any, .any, .any, .any, .any, .any, .any] (h ++ [])) : ACalls Tryd.prog 15 [a0] h fun x h' => h' = h ∧ x = .ret res := ACalls.weak (ACalls.into k15 rfl hw)
theorem n15 {a0 : AV} {h : AH} {R : AE → AH → Prop} (hw : ∀ n, h.length = n → (∀ e ∈ h, e.lt n = true) → AV.ltL n [a0] = true → AV.bdL [a0] → aw Tryd.prog n c15 (retA [(.tmp 2)] R) [a0, .any, .any, .any, .any, .any, .any, .any, .any] (h ++ [])) : ACalls Tryd.prog 15 [a0] h R := ACalls.intoN k15 rfl hw
theorem j15 {a0 : AV} {h : AH} {R : AE → AH → Prop} (hw : ∀ n, h.length = n → (∀ e ∈ h, e.lt n = true) → AV.ltL n [a0] = true → AV.bdL [a0] → aw Tryd.prog n c15 (retA [(.tmp 2)] fun x h' => ∃ y z, h' = y ++ z ∧ y.length = n ∧ (∀ e ∈ y, e.lt n = true) ∧ x.lt n = true ∧ R x y) [a0, .any, .any, .any, .any, .any, .any, .any, .any] (h ++ [])) : ACalls Tryd.prog 15 [a0] h R := ACalls.intoG k15 rfl hw
/-- line.plain -/
def c40 : AC := (.seq (.reg [⟨(some 2), none, (.mv (.const (.bool false)))⟩]) (.seq (.reg [⟨(some 3), none, (.mv (.tmp 0))⟩, ⟨(some 4), none, (.bin .geq (.tmp 3) (.const (.int .u8 32)))⟩, ⟨(some 5), none, (.mv (.tmp 4))⟩, ⟨(some 6), (some (5, true)), (.mv (.tmp 0))⟩, ⟨(some 7), (some (5, true)), (.bin .leq (.tmp 6) (.const (.int .u8 126)))⟩, ⟨(some 8), none, (.pick (.tmp 5) (.tmp 7) (.const (.bool false)))⟩, ⟨(some 9), none, (.mv (.tmp 8))⟩, ⟨(some 10), (some (9, false)), (.mv (.tmp 0))⟩, ⟨(some 11), (some (9, false)), (.bin .eql (.tmp 10) (.const (.int .u8 9)))⟩, ⟨(some 12), none, (.pick (.tmp 9) (.const (.bool true)) (.tmp 11))⟩, ⟨(some 2), none, (.mv (.tmp 12))⟩]) .ret))
theorem k40 : compF Tryd.prog 40 = some ⟨c40, [(.tmp 2)], 13⟩ := by kernel_rfl
theorem i40 {a0 : AV} {h : AH} {R : AE → Prop} (hw : ∀ n, h.length = n → (∀ e ∈ h, e.lt n = true) → AV.ltL n [a0] = true → AV.bdL [a0] → aw Tryd.prog n c40 (retA [(.tmp 2)] fun x h' => ∃ z, h' = h ++ z ∧ x.lt n = true ∧ R x) [a0, .any, .any, .any, .any, .any, .any, .any, .any, .any, .any, .any, .any] (h ++ [])) : ACalls Tryd.prog 40 [a0] h fun x h' => h' = h ∧ R x := ACalls.into k40 rfl hw
theorem w40 {a0 : AV} {h : AH} {res : AV} (hw : ∀ n, h.length = n → (∀ e ∈ h, e.lt n = true) → AV.ltL n [a0] = true → AV.bdL [a0] → aw Tryd.prog n c40 (retA [(.tmp 2)] fun x h' => ∃ z, h' = h ++ z ∧ x.lt n = true ∧ ∃ c, x = .ret c ∧ Wk c res) [a0, .any, .any, .any, .any, .any, .any, .any, .any, .any, .any, .any, .any] (h ++ [])) : ACalls Tryd.prog 40 [a0] h fun x h' => h' = h ∧ x = .ret res := ACalls.weak (ACalls.into k40 rfl hw)
theorem n40 {a0 : AV} {h : AH} {R : AE → AH → Prop} (hw : ∀ n, h.length = n → (∀ e ∈ h, e.lt n = true) → AV.ltL n [a0] = true → AV.bdL [a0] → aw Tryd.prog n c40 (retA [(.tmp 2)] R) [a0, .any, .any, .any, .any, .any, .any, .any, .any, .any, .any, .any, .any] (h ++ [])) : ACalls Tryd.prog 40 [a0] h R := ACalls.intoN k40 rfl hw
theorem j40 {a0 : AV} {h : AH} {R : AE → AH → Prop} (hw : ∀ n, h.length = n → (∀ e ∈ h, e.lt n = true) → AV.ltL n [a0] = true → AV.bdL [a0] → aw Tryd.prog n c40 (retA [(.tmp 2)] fun x h' => ∃ y z, h' = y ++ z ∧ y.length = n ∧ (∀ e ∈ y, e.lt n = true) ∧ x.lt n = true ∧ R x y) [a0, .any, .any, .any, .any, .any, .any, .any, .any, .any, .any, .any, .any] (h ++ [])) : ACalls Tryd.prog 40 [a0] h R := ACalls.intoG k40 rfl hw
/-- line.fail -/
def c31 : AC := (.reg [⟨(some 2), none, (.mv (.tmp 0))⟩, ⟨(some 3), none, (.mkif 24 (.tmp 2))⟩, ⟨none, none, (.panic (.tmp 3))⟩])
theorem k31 : compF Tryd.prog 31 = some ⟨c31, [], 4⟩ := by kernel_rfl
theorem i31 {a0 : AV} {h : AH} {R : AE → Prop} (hw : ∀ n, h.length = n → (∀ e ∈ h, e.lt n = true) → AV.ltL n [a0] = true → AV.bdL [a0] → aw Tryd.prog n c31 (retA [] fun x h' => ∃ z, h' = h ++ z ∧ x.lt n = true ∧ R x) [a0, .any, .any, .any] (h ++ [])) : ACalls Tryd.prog 31 [a0] h fun x h' => h' = h ∧ R x := ACalls.into k31 rfl hw
theorem w31 {a0 : AV} {h : AH} {res : AV} (hw : ∀ n, h.length = n → (∀ e ∈ h, e.lt n = true) → AV.ltL n [a0] = true → AV.bdL [a0] → aw Tryd.prog n c31 (retA [] fun x h' => ∃ z, h' = h ++ z ∧ x.lt n = true ∧ ∃ c, x = .ret c ∧ Wk c res) [a0, .any, .any, .any] (h ++ [])) : ACalls Tryd.prog 31 [a0] h fun x h' => h' = h ∧ x = .ret res := ACalls.weak (ACalls.into k31 rfl hw)
theorem n31 {a0 : AV} {h : AH} {R : AE → AH → Prop} (hw : ∀ n, h.length = n → (∀ e ∈ h, e.lt n = true) → AV.ltL n [a0] = true → AV.bdL [a0] → aw Tryd.prog n c31 (retA [] R) [a0, .any, .any, .any] (h ++ [])) : ACalls Tryd.prog 31 [a0] h R := ACalls.intoN k31 rfl hw
theorem j31 {a0 : AV} {h : AH} {R : AE → AH → Prop} (hw : ∀ n, h.length = n → (∀ e ∈ h, e.lt n = true) → AV.ltL n [a0] = true → AV.bdL [a0] → aw Tryd.prog n c31 (retA [] fun x h' => ∃ y z, h' = y ++ z ∧ y.length = n ∧ (∀ e ∈ y, e.lt n = true) ∧ x.lt n = true ∧ R x y) [a0, .any, .any, .any] (h ++ [])) : ACalls Tryd.prog 31 [a0] h R := ACalls.intoG k31 rfl hw
/-- (*line.splitter).run -/
def c28 : AC := (.seq (.reg [⟨(some 4), none, (.mv (.const (.string ⟨#[]⟩)))⟩]) (.seq (.reg [⟨(some 6), none, (.mv (.tmp 0))⟩, ⟨(some 7), none, (.nck (.tmp 6))⟩, ⟨(some 8), none, (.fa 1 (.tmp 7))⟩, ⟨(some 9), none, (.load false 1 (.tmp 8))⟩, ⟨(some 5), none, (.mv (.tmp 9))⟩]) (.seq (.block 0 (.loop (.seq (.seq (.drw [⟨(some 10), none, (.mv (.tmp 0))⟩, ⟨(some 11), none, (.nck (.tmp 10))⟩, ⟨(some 12), none, (.fa 1 (.tmp 11))⟩, ⟨(some 13), none, (.load false 1 (.tmp 12))⟩, ⟨(some 14), none, (.mv (.tmp 0))⟩, ⟨(some 15), none, (.nck (.tmp 14))⟩, ⟨(some 16), none, (.fa 0 (.tmp 15))⟩, ⟨(some 17), none, (.load false 1 (.tmp 16))⟩, ⟨(some 18), none, (.len true (.tmp 17))⟩, ⟨(some 19), none, (.bin .lss (.tmp 13) (.tmp 18))⟩, ⟨(some 20), none, (.mv (.tmp 19))⟩, ⟨(some 21), (some (20, true)), (.mv (.tmp 1))⟩, ⟨(some 22), (some (20, true)), (.mv (.tmp 0))⟩, ⟨(some 23), (some (20, true)), (.nck (.tmp 22))⟩, ⟨(some 24), (some (20, true)), (.fa 0 (.tmp 23))⟩, ⟨(some 25), (some (20, true)), (.load false 1 (.tmp 24))⟩, ⟨(some 26), (some (20, true)), (.mv (.tmp 0))⟩, ⟨(some 27), (some (20, true)), (.nck (.tmp 26))⟩, ⟨(some 28), (some (20, true)), (.fa 1 (.tmp 27))⟩, ⟨(some 29), (some (20, true)), (.load false 1 (.tmp 28))⟩, ⟨(some 30), (some (20, true)), (.ix (.tmp 25) (.tmp 29))⟩, ⟨(some 31), (some (20, true)), (.call (.tmp 21) [(.tmp 30)])⟩, ⟨(some 32), none, (.pick (.tmp 20) (.tmp 31) (.const (.bool false)))⟩] [] []) (.cond (.tmp 32) .skip (.exit 0))) (.block 1 (.seq (.seq (.drw [⟨(some 33), none, (.mv (.tmp 0))⟩, ⟨(some 34), none, (.nck (.tmp 33))⟩, ⟨(some 35), none, (.fa 0 (.tmp 34))⟩, ⟨(some 36), none, (.load false 1 (.tmp 35))⟩, ⟨(some 37), none, (.mv (.tmp 0))⟩, ⟨(some 38), none, (.nck (.tmp 37))⟩, ⟨(some 39), none, (.fa 1 (.tmp 38))⟩, ⟨(some 40), none, (.load false 1 (.tmp 39))⟩, ⟨(some 41), none, (.ix (.tmp 36) (.tmp 40))⟩, ⟨(some 42), none, (.call (.func 40) [(.tmp 41)])⟩, ⟨(some 43), none, (.un .not (.tmp 42))⟩] [] []) (.cond (.tmp 43) (.reg [⟨(some 44), none, (.call (.func 31) [(.const (.int .i64 1))])⟩]) .skip)) (.reg [⟨(some 45), none, (.mv (.tmp 0))⟩, ⟨(some 46), none, (.nck (.tmp 45))⟩, ⟨(some 47), none, (.fa 1 (.tmp 46))⟩, ⟨(some 48), none, (.load false 1 (.tmp 47))⟩, ⟨(some 49), none, (.bin .add (.tmp 48) (.const (.int .i64 1)))⟩, ⟨(some 50), none, (.nck (.tmp 45))⟩, ⟨(some 51), none, (.fa 1 (.tmp 50))⟩, ⟨none, none, (.store 1 (.tmp 51) (.tmp 49))⟩])))))) (.seq (.drw [⟨(some 52), none, (.mv (.tmp 0))⟩, ⟨(some 53), none, (.nck (.tmp 52))⟩, ⟨(some 54), none, (.fa 0 (.tmp 53))⟩, ⟨(some 55), none, (.load false 1 (.tmp 54))⟩, ⟨(some 56), none, (.mv (.tmp 5))⟩, ⟨(some 57), none, (.mv (.tmp 0))⟩, ⟨(some 58), none, (.nck (.tmp 57))⟩, ⟨(some 59), none, (.fa 1 (.tmp 58))⟩, ⟨(some 60), none, (.load false 1 (.tmp 59))⟩, ⟨(some 61), none, (.sls (.tmp 55) (some (.tmp 56)) (some (.tmp 60)))⟩, ⟨(some 4), none, (.mv (.tmp 61))⟩] [] []) .ret))))
theorem k28 : compF Tryd.prog 28 = some ⟨c28, [(.tmp 4)], 62⟩ := by kernel_rfl
theorem i28 {a0 a1 : AV} {h : AH} {R : AE → Prop} (hw : ∀ n, h.length = n → (∀ e ∈ h, e.lt n = true) → AV.ltL n [a0, a1] = true → AV.bdL [a0, a1] → aw Tryd.prog n c28 (retA [(.tmp 4)] fun x h' => ∃ z, h' = h ++ z ∧ x.lt n = true ∧ R x) [a0, a1, .any, .any, .any, .any, .any, .any, .any, .any, .any, .any, .any, .any, .any, .any, .any, .any, .any, .any, .any, .any, .any, .any, .any, .any, .any, .any, .any, .any, .any, .any, .any, .any, .any, .any, .any, .any, .any, .any, .any, .any, .any, .any, .any, .any, .any, .any, .any, .any, .any, .any, .any, .any, .any, .any, .any, .any, .any, .any, .any, .any] (h ++ [])) : ACalls Tryd.prog 28 [a0, a1] h fun x h' => h' = h ∧ R x := ACalls.into k28 rfl hw
theorem w28 {a0 a1 : AV} {h : AH} {res : AV} (hw : ∀ n, h.length = n → (∀ e ∈ h, e.lt n = true) → AV.ltL n [a0, a1] = true → AV.bdL [a0, a1] → aw Tryd.prog n c28 (retA [(.tmp 4)] fun x h' => ∃ z, h' = h ++ z ∧ x.lt n = true ∧ ∃ c, x = .ret c ∧ Wk c res) [a0, a1, .any, .any, .any, .any, .any, .any, .any, .any, .any, .any, .any, .any, .any, .any, .any, .any, .any, .any, .any, .any, .any, .any, .any, .any, .any, .any, .any, .any, .any, .any, .any, .any, .any, .any, .any, .any, .any, .any, .any, .any, .any, .any, .any, .any, .any, .any, .any, .any, .any, .any, .any, .any, .any, .any, .any, .any, .any, .any, .any, .any] (h ++ [])) : ACalls Tryd.prog 28 [a0, a1] h fun x h' => h' = h ∧ x = .ret res := ACalls.weak (ACalls.into k28 rfl hw)
theorem n28 {a0 a1 : AV} {h : AH} {R : AE → AH → Prop} (hw : ∀ n, h.length = n → (∀ e ∈ h, e.lt n = true) → AV.ltL n [a0, a1] = true → AV.bdL [a0, a1] → aw Tryd.prog n c28 (retA [(.tmp 4)] R) [a0, a1, .any, .any, .any, .any, .any, .any, .any, .any, .any, .any, .any, .any, .any, .any, .any, .any, .any, .any, .any, .any, .any, .any, .any, .any, .any, .any, .any, .any, .any, .any, .any, .any, .any, .any, .any, .any, .any, .any, .any, .any, .any, .any, .any, .any, .any, .any, .any, .any, .any, .any, .any, .any, .any, .any, .any, .any, .any, .any, .any, .any] (h ++ [])) : ACalls Tryd.prog 28 [a0, a1] h R := ACalls.intoN k28 rfl hw
theorem j28 {a0 a1 : AV} {h : AH} {R : AE → AH → Prop} (hw : ∀ n, h.length = n → (∀ e ∈ h, e.lt n = true) → AV.ltL n [a0, a1] = true → AV.bdL [a0, a1] → aw Tryd.prog n c28 (retA [(.tmp 4)] fun x h' => ∃ y z, h' = y ++ z ∧ y.length = n ∧ (∀ e ∈ y, e.lt n = true) ∧ x.lt n = true ∧ R x y) [a0, a1, .any, .any, .any, .any, .any, .any, .any, .any, .any, .any, .any, .any, .any, .any, .any, .any, .any, .any, .any, .any, .any, .any, .any, .any, .any, .any, .any, .any, .any, .any, .any, .any, .any, .any, .any, .any, .any, .any, .any, .any, .any, .any, .any, .any, .any, .any, .any, .any, .any, .any, .any, .any, .any, .any, .any, .any, .any, .any, .any, .any] (h ++ [])) : ACalls Tryd.prog 28 [a0, a1] h R := ACalls.intoG k28 rfl hw
/-- (*line.splitter).more -/
def c29 : AC := (.seq (.reg [⟨(some 2), none, (.mv (.const (.bool false)))⟩]) (.seq (.drw [⟨(some 3), none, (.mv (.tmp 0))⟩, ⟨(some 4), none, (.nck (.tmp 3))⟩, ⟨(some 5), none, (.fa 1 (.tmp 4))⟩, ⟨(some 6), none, (.load false 1 (.tmp 5))⟩, ⟨(some 7), none, (.mv (.tmp 0))⟩, ⟨(some 8), none, (.nck (.tmp 7))⟩, ⟨(some 9), none, (.fa 0 (.tmp 8))⟩, ⟨(some 10), none, (.load false 1 (.tmp 9))⟩, ⟨(some 11), none, (.len true (.tmp 10))⟩, ⟨(some 12), none, (.bin .lss (.tmp 6) (.tmp 11))⟩, ⟨(some 13), none, (.mv (.tmp 12))⟩, ⟨(some 14), (some (13, true)), (.mv (.tmp 0))⟩, ⟨(some 15), (some (13, true)), (.nck (.tmp 14))⟩, ⟨(some 16), (some (13, true)), (.fa 0 (.tmp 15))⟩, ⟨(some 17), (some (13, true)), (.load false 1 (.tmp 16))⟩, ⟨(some 18), (some (13, true)), (.mv (.tmp 0))⟩, ⟨(some 19), (some (13, true)), (.nck (.tmp 18))⟩, ⟨(some 20), (some (13, true)), (.fa 1 (.tmp 19))⟩, ⟨(some 21), (some (13, true)), (.load false 1 (.tmp 20))⟩, ⟨(some 22), (some (13, true)), (.ix (.tmp 17) (.tmp 21))⟩, ⟨(some 23), (some (13, true)), (.bin .neq (.tmp 22) (.const (.int .u8 35)))⟩, ⟨(some 24), none, (.pick (.tmp 13) (.tmp 23) (.const (.bool false)))⟩, ⟨(some 2), none, (.mv (.tmp 24))⟩] [] []) .ret))
theorem k29 : compF Tryd.prog 29 = some ⟨c29, [(.tmp 2)], 25⟩ := by kernel_rfl
theorem i29 {a0 : AV} {h : AH} {R : AE → Prop} (hw : ∀ n, h.length = n → (∀ e ∈ h, e.lt n = true) → AV.ltL n [a0] = true → AV.bdL [a0] → aw Tryd.prog n c29 (retA [(.tmp 2)] fun x h' => ∃ z, h' = h ++ z ∧ x.lt n = true ∧ R x) [a0, .any, .any, .any, .any, .any, .any, .any, .any, .any, .any, .any, .any, .any, .any, .any, .any, .any, .any, .any, .any, .any, .any, .any, .any] (h ++ [])) : ACalls Tryd.prog 29 [a0] h fun x h' => h' = h ∧ R x := ACalls.into k29 rfl hw
theorem w29 {a0 : AV} {h : AH} {res : AV} (hw : ∀ n, h.length = n → (∀ e ∈ h, e.lt n = true) → AV.ltL n [a0] = true → AV.bdL [a0] → aw Tryd.prog n c29 (retA [(.tmp 2)] fun x h' => ∃ z, h' = h ++ z ∧ x.lt n = true ∧ ∃ c, x = .ret c ∧ Wk c res) [a0, .any, .any, .any, .any, .any, .any, .any, .any, .any, .any, .any, .any, .any, .any, .any, .any, .any, .any, .any, .any, .any, .any, .any, .any] (h ++ [])) : ACalls Tryd.prog 29 [a0] h fun x h' => h' = h ∧ x = .ret res := ACalls.weak (ACalls.into k29 rfl hw)
theorem n29 {a0 : AV} {h : AH} {R : AE → AH → Prop} (hw : ∀ n, h.length = n → (∀ e ∈ h, e.lt n = true) → AV.ltL n [a0] = true → AV.bdL [a0] → aw Tryd.prog n c29 (retA [(.tmp 2)] R) [a0, .any, .any, .any, .any, .any, .any, .any, .any, .any, .any, .any, .any, .any, .any, .any, .any, .any, .any, .any, .any, .any, .any, .any, .any] (h ++ [])) : ACalls Tryd.prog 29 [a0] h R := ACalls.intoN k29 rfl hw
theorem j29 {a0 : AV} {h : AH} {R : AE → AH → Prop} (hw : ∀ n, h.length = n → (∀ e ∈ h, e.lt n = true) → AV.ltL n [a0] = true → AV.bdL [a0] → aw Tryd.prog n c29 (retA [(.tmp 2)] fun x h' => ∃ y z, h' = y ++ z ∧ y.length = n ∧ (∀ e ∈ y, e.lt n = true) ∧ x.lt n = true ∧ R x y) [a0, .any, .any, .any, .any, .any, .any, .any, .any, .any, .any, .any, .any, .any, .any, .any, .any, .any, .any, .any, .any, .any, .any, .any, .any] (h ++ [])) : ACalls Tryd.prog 29 [a0] h R := ACalls.intoG k29 rfl hw
/-- (*line.splitter).quoted -/
def c41 : AC := (.seq (.reg [⟨(some 2), none, (.mv (.const (.string ⟨#[]⟩)))⟩]) (.seq (.reg [⟨(some 4), none, (.mv (.tmp 0))⟩, ⟨(some 5), none, (.nck (.tmp 4))⟩, ⟨(some 6), none, (.fa 1 (.tmp 5))⟩, ⟨(some 7), none, (.load false 1 (.tmp 6))⟩, ⟨(some 8), none, (.bin .add (.tmp 7) (.const (.int .i64 1)))⟩, ⟨(some 9), none, (.nck (.tmp 4))⟩, ⟨(some 10), none, (.fa 1 (.tmp 9))⟩, ⟨none, none, (.store 1 (.tmp 10) (.tmp 8))⟩]) (.seq (.reg [⟨(some 11), none, (.mv (.tmp 0))⟩, ⟨(some 12), none, (.call (.func 28) [(.tmp 11), (.func 50)])⟩, ⟨(some 3), none, (.mv (.tmp 12))⟩]) (.seq (.seq (.drw [⟨(some 13), none, (.mv (.tmp 0))⟩, ⟨(some 14), none, (.nck (.tmp 13))⟩, ⟨(some 15), none, (.fa 1 (.tmp 14))⟩, ⟨(some 16), none, (.load false 1 (.tmp 15))⟩, ⟨(some 17), none, (.mv (.tmp 0))⟩, ⟨(some 18), none, (.nck (.tmp 17))⟩, ⟨(some 19), none, (.fa 0 (.tmp 18))⟩, ⟨(some 20), none, (.load false 1 (.tmp 19))⟩, ⟨(some 21), none, (.len true (.tmp 20))⟩, ⟨(some 22), none, (.bin .eql (.tmp 16) (.tmp 21))⟩] [] []) (.cond (.tmp 22) (.reg [⟨(some 23), none, (.call (.func 31) [(.const (.int .i64 1))])⟩]) .skip)) (.seq (.reg [⟨(some 24), none, (.mv (.tmp 0))⟩, ⟨(some 25), none, (.nck (.tmp 24))⟩, ⟨(some 26), none, (.fa 1 (.tmp 25))⟩, ⟨(some 27), none, (.load false 1 (.tmp 26))⟩, ⟨(some 28), none, (.bin .add (.tmp 27) (.const (.int .i64 1)))⟩, ⟨(some 29), none, (.nck (.tmp 24))⟩, ⟨(some 30), none, (.fa 1 (.tmp 29))⟩, ⟨none, none, (.store 1 (.tmp 30) (.tmp 28))⟩]) (.seq (.seq (.drw [⟨(some 31), none, (.mv (.tmp 0))⟩, ⟨(some 32), none, (.call (.func 29) [(.tmp 31)])⟩, ⟨(some 33), none, (.mv (.tmp 32))⟩, ⟨(some 34), (some (33, true)), (.mv (.tmp 0))⟩, ⟨(some 35), (some (33, true)), (.nck (.tmp 34))⟩, ⟨(some 36), (some (33, true)), (.fa 0 (.tmp 35))⟩, ⟨(some 37), (some (33, true)), (.load false 1 (.tmp 36))⟩, ⟨(some 38), (some (33, true)), (.mv (.tmp 0))⟩, ⟨(some 39), (some (33, true)), (.nck (.tmp 38))⟩, ⟨(some 40), (some (33, true)), (.fa 1 (.tmp 39))⟩, ⟨(some 41), (some (33, true)), (.load false 1 (.tmp 40))⟩, ⟨(some 42), (some (33, true)), (.ix (.tmp 37) (.tmp 41))⟩, ⟨(some 43), (some (33, true)), (.call (.func 15) [(.tmp 42)])⟩, ⟨(some 44), (some (33, true)), (.un .not (.tmp 43))⟩, ⟨(some 45), none, (.pick (.tmp 33) (.tmp 44) (.const (.bool false)))⟩] [] []) (.cond (.tmp 45) (.reg [⟨(some 46), none, (.call (.func 31) [(.const (.int .i64 1))])⟩]) .skip)) (.seq (.reg [⟨(some 47), none, (.mv (.tmp 3))⟩, ⟨(some 2), none, (.mv (.tmp 47))⟩]) .ret)))))))
theorem k41 : compF Tryd.prog 41 = some ⟨c41, [(.tmp 2)], 48⟩ := by kernel_rfl
theorem i41 {a0 : AV} {h : AH} {R : AE → Prop} (hw : ∀ n, h.length = n → (∀ e ∈ h, e.lt n = true) → AV.ltL n [a0] = true → AV.bdL [a0] → aw Tryd.prog n c41 (retA [(.tmp 2)] fun x h' => ∃ z, h' = h ++ z ∧ x.lt n = true ∧ R x) [a0, .any, .any, .any, .any, .any, .any, .any, .any, .any, .any, .any, .any, .any, .any, .any, .any, .any, .any, .any, .any, .any, .any, .any, .any, .any, .any, .any, .any, .any, .any, .any, .any, .any, .any, .any, .any, .any, .any, .any, .any, .any, .any, .any, .any, .any, .any, .any] (h ++ [])) : ACalls Tryd.prog 41 [a0] h fun x h' => h' = h ∧ R x := ACalls.into k41 rfl hw
theorem w41 {a0 : AV} {h : AH} {res : AV} (hw : ∀ n, h.length = n → (∀ e ∈ h, e.lt n = true) → AV.ltL n [a0] = true → AV.bdL [a0] → aw Tryd.prog n c41 (retA [(.tmp 2)] fun x h' => ∃ z, h' = h ++ z ∧ x.lt n = true ∧ ∃ c, x = .ret c ∧ Wk c res) [a0, .any, .any, .any, .any, .any, .any, .any, .any, .any, .any, .any, .any, .any, .any, .any, .any, .any, .any, .any, .any, .any, .any, .any, .any, .any, .any, .any, .any, .any, .any, .any, .any, .any, .any, .any, .any, .any, .any, .any, .any, .any, .any, .any, .any, .any, .any, .any] (h ++ [])) : ACalls Tryd.prog 41 [a0] h fun x h' => h' = h ∧ x = .ret res := ACalls.weak (ACalls.into k41 rfl hw)
theorem n41 {a0 : AV} {h : AH} {R : AE → AH → Prop} (hw : ∀ n, h.length = n → (∀ e ∈ h, e.lt n = true) → AV.ltL n [a0] = true → AV.bdL [a0] → aw Tryd.prog n c41 (retA [(.tmp 2)] R) [a0, .any, .any, .any, .any, .any, .any, .any, .any, .any, .any, .any, .any, .any, .any, .any, .any, .any, .any, .any, .any, .any, .any, .any, .any, .any, .any, .any, .any, .any, .any, .any, .any, .any, .any, .any, .any, .any, .any, .any, .any, .any, .any, .any, .any, .any, .any, .any] (h ++ [])) : ACalls Tryd.prog 41 [a0] h R := ACalls.intoN k41 rfl hw
theorem j41 {a0 : AV} {h : AH} {R : AE → AH → Prop} (hw : ∀ n, h.length = n → (∀ e ∈ h, e.lt n = true) → AV.ltL n [a0] = true → AV.bdL [a0] → aw Tryd.prog n c41 (retA [(.tmp 2)] fun x h' => ∃ y z, h' = y ++ z ∧ y.length = n ∧ (∀ e ∈ y, e.lt n = true) ∧ x.lt n = true ∧ R x y) [a0, .any, .any, .any, .any, .any, .any, .any, .any, .any, .any, .any, .any, .any, .any, .any, .any, .any, .any, .any, .any, .any, .any, .any, .any, .any, .any, .any, .any, .any, .any, .any, .any, .any, .any, .any, .any, .any, .any, .any, .any, .any, .any, .any, .any, .any, .any, .any] (h ++ [])) : ACalls Tryd.prog 41 [a0] h R := ACalls.intoG k41 rfl hw
/-- (*line.splitter).field -/
def c30 : AC := (.seq (.reg [⟨(some 2), none, (.mv (.const (.string ⟨#[]⟩)))⟩]) (.seq (.seq (.drw [⟨(some 4), none, (.mv (.tmp 0))⟩, ⟨(some 5), none, (.nck (.tmp 4))⟩, ⟨(some 6), none, (.fa 0 (.tmp 5))⟩, ⟨(some 7), none, (.load false 1 (.tmp 6))⟩, ⟨(some 8), none, (.mv (.tmp 0))⟩, ⟨(some 9), none, (.nck (.tmp 8))⟩, ⟨(some 10), none, (.fa 1 (.tmp 9))⟩, ⟨(some 11), none, (.load false 1 (.tmp 10))⟩, ⟨(some 12), none, (.ix (.tmp 7) (.tmp 11))⟩, ⟨(some 13), none, (.bin .eql (.tmp 12) (.const (.int .u8 34)))⟩] [] []) (.cond (.tmp 13) (.seq (.reg [⟨(some 14), none, (.mv (.tmp 0))⟩, ⟨(some 15), none, (.call (.func 41) [(.tmp 14)])⟩, ⟨(some 2), none, (.mv (.tmp 15))⟩]) .ret) .skip)) (.seq (.reg [⟨(some 16), none, (.mv (.tmp 0))⟩, ⟨(some 17), none, (.call (.func 28) [(.tmp 16), (.func 42)])⟩, ⟨(some 3), none, (.mv (.tmp 17))⟩]) (.seq (.seq (.drw [⟨(some 18), none, (.mv (.tmp 0))⟩, ⟨(some 19), none, (.call (.func 29) [(.tmp 18)])⟩, ⟨(some 20), none, (.mv (.tmp 19))⟩, ⟨(some 21), (some (20, true)), (.mv (.tmp 0))⟩, ⟨(some 22), (some (20, true)), (.nck (.tmp 21))⟩, ⟨(some 23), (some (20, true)), (.fa 0 (.tmp 22))⟩, ⟨(some 24), (some (20, true)), (.load false 1 (.tmp 23))⟩, ⟨(some 25), (some (20, true)), (.mv (.tmp 0))⟩, ⟨(some 26), (some (20, true)), (.nck (.tmp 25))⟩, ⟨(some 27), (some (20, true)), (.fa 1 (.tmp 26))⟩, ⟨(some 28), (some (20, true)), (.load false 1 (.tmp 27))⟩, ⟨(some 29), (some (20, true)), (.ix (.tmp 24) (.tmp 28))⟩, ⟨(some 30), (some (20, true)), (.bin .eql (.tmp 29) (.const (.int .u8 34)))⟩, ⟨(some 31), none, (.pick (.tmp 20) (.tmp 30) (.const (.bool false)))⟩] [] []) (.cond (.tmp 31) (.reg [⟨(some 32), none, (.call (.func 31) [(.const (.int .i64 1))])⟩]) .skip)) (.seq (.reg [⟨(some 33), none, (.mv (.tmp 3))⟩, ⟨(some 2), none, (.mv (.tmp 33))⟩]) .ret)))))
theorem k30 : compF Tryd.prog 30 = some ⟨c30, [(.tmp 2)], 34⟩ := by kernel_rfl
theorem i30 {a0 : AV} {h : AH} {R : AE → Prop} (hw : ∀ n, h.length = n → (∀ e ∈ h, e.lt n = true) → AV.ltL n [a0] = true → AV.bdL [a0] → aw Tryd.prog n c30 (retA [(.tmp 2)] fun x h' => ∃ z, h' = h ++ z ∧ x.lt n = true ∧ R x) [a0, .any, .any, .any, .any, .any, .any, .any, .any, .any, .any, .any, .any, .any, .any, .any, .any, .any, .any, .any, .any, .any, .any, .any, .any, .any, .any, .any, .any, .any, .any, .any, .any, .any] (h ++ [])) : ACalls Tryd.prog 30 [a0] h fun x h' => h' = h ∧ R x := ACalls.into k30 rfl hw
theorem w30 {a0 : AV} {h : AH} {res : AV} (hw : ∀ n, h.length = n → (∀ e ∈ h, e.lt n = true) → AV.ltL n [a0] = true → AV.bdL [a0] → aw Tryd.prog n c30 (retA [(.tmp 2)] fun x h' => ∃ z, h' = h ++ z ∧ x.lt n = true ∧ ∃ c, x = .ret c ∧ Wk c res) [a0, .any, .any, .any, .any, .any, .any, .any, .any, .any, .any, .any, .any, .any, .any, .any, .any, .any, .any, .any, .any, .any, .any, .any, .any, .any, .any, .any, .any, .any, .any, .any, .any, .any] (h ++ [])) : ACalls Tryd.prog 30 [a0] h fun x h' => h' = h ∧ x = .ret res := ACalls.weak (ACalls.into k30 rfl hw)
theorem n30 {a0 : AV} {h : AH} {R : AE → AH → Prop} (hw : ∀ n, h.length = n → (∀ e ∈ h, e.lt n = true) → AV.ltL n [a0] = true → AV.bdL [a0] → aw Tryd.prog n c30 (retA [(.tmp 2)] R) [a0, .any, .any, .any, .any, .any, .any, .any, .any, .any, .any, .any, .any, .any, .any, .any, .any, .any, .any, .any, .any, .any, .any, .any, .any, .any, .any, .any, .any, .any, .any, .any, .any, .any] (h ++ [])) : ACalls Tryd.prog 30 [a0] h R := ACalls.intoN k30 rfl hw
theorem j30 {a0 : AV} {h : AH} {R : AE → AH → Prop} (hw : ∀ n, h.length = n → (∀ e ∈ h, e.lt n = true) → AV.ltL n [a0] = true → AV.bdL [a0] → aw Tryd.prog n c30 (retA [(.tmp 2)] fun x h' => ∃ y z, h' = y ++ z ∧ y.length = n ∧ (∀ e ∈ y, e.lt n = true) ∧ x.lt n = true ∧ R x y) [a0, .any, .any, .any, .any, .any, .any, .any, .any, .any, .any, .any, .any, .any, .any, .any, .any, .any, .any, .any, .any, .any, .any, .any, .any, .any, .any, .any, .any, .any, .any, .any, .any, .any] (h ++ [])) : ACalls Tryd.prog 30 [a0] h R := ACalls.intoG k30 rfl hw
/-- (*line.splitter).quoted$1 -/
def c50 : AC := (.seq (.reg [⟨(some 2), none, (.mv (.const (.bool false)))⟩]) (.seq (.reg [⟨(some 3), none, (.mv (.tmp 0))⟩, ⟨(some 4), none, (.bin .neq (.tmp 3) (.const (.int .u8 34)))⟩, ⟨(some 2), none, (.mv (.tmp 4))⟩]) .ret))
theorem k50 : compF Tryd.prog 50 = some ⟨c50, [(.tmp 2)], 5⟩ := by kernel_rfl
theorem i50 {a0 : AV} {h : AH} {R : AE → Prop} (hw : ∀ n, h.length = n → (∀ e ∈ h, e.lt n = true) → AV.ltL n [a0] = true → AV.bdL [a0] → aw Tryd.prog n c50 (retA [(.tmp 2)] fun x h' => ∃ z, h' = h ++ z ∧ x.lt n = true ∧ R x) [a0, .any, .any, .any, .any] (h ++ [])) : ACalls Tryd.prog 50 [a0] h fun x h' => h' = h ∧ R x := ACalls.into k50 rfl hw
theorem w50 {a0 : AV} {h : AH} {res : AV} (hw : ∀ n, h.length = n → (∀ e ∈ h, e.lt n = true) → AV.ltL n [a0] = true → AV.bdL [a0] → aw Tryd.prog n c50 (retA [(.tmp 2)] fun x h' => ∃ z, h' = h ++ z ∧ x.lt n = true ∧ ∃ c, x = .ret c ∧ Wk c res) [a0, .any, .any, .any, .any] (h ++ [])) : ACalls Tryd.prog 50 [a0] h fun x h' => h' = h ∧ x = .ret res := ACalls.weak (ACalls.into k50 rfl hw)
theorem n50 {a0 : AV} {h : AH} {R : AE → AH → Prop} (hw : ∀ n, h.length = n → (∀ e ∈ h, e.lt n = true) → AV.ltL n [a0] = true → AV.bdL [a0] → aw Tryd.prog n c50 (retA [(.tmp 2)] R) [a0, .any, .any, .any, .any] (h ++ [])) : ACalls Tryd.prog 50 [a0] h R := ACalls.intoN k50 rfl hw
theorem j50 {a0 : AV} {h : AH} {R : AE → AH → Prop} (hw : ∀ n, h.length = n → (∀ e ∈ h, e.lt n = true) → AV.ltL n [a0] = true → AV.bdL [a0] → aw Tryd.prog n c50 (retA [(.tmp 2)] fun x h' => ∃ y z, h' = y ++ z ∧ y.length = n ∧ (∀ e ∈ y, e.lt n = true) ∧ x.lt n = true ∧ R x y) [a0, .any, .any, .any, .any] (h ++ [])) : ACalls Tryd.prog 50 [a0] h R := ACalls.intoG k50 rfl hw
/-- (*line.splitter).field$1 -/
def c42 : AC := (.seq (.reg [⟨(some 2), none, (.mv (.const (.bool false)))⟩]) (.seq (.reg [⟨(some 3), none, (.mv (.tmp 0))⟩, ⟨(some 4), none, (.call (.func 15) [(.tmp 3)])⟩, ⟨(some 5), none, (.un .not (.tmp 4))⟩, ⟨(some 6), none, (.mv (.tmp 5))⟩, ⟨(some 7), (some (6, true)), (.mv (.tmp 0))⟩, ⟨(some 8), (some (6, true)), (.bin .neq (.tmp 7) (.const (.int .u8 35)))⟩, ⟨(some 9), none, (.pick (.tmp 6) (.tmp 8) (.const (.bool false)))⟩, ⟨(some 10), none, (.mv (.tmp 9))⟩, ⟨(some 11), (some (10, true)), (.mv (.tmp 0))⟩, ⟨(some 12), (some (10, true)), (.bin .neq (.tmp 11) (.const (.int .u8 34)))⟩, ⟨(some 13), none, (.pick (.tmp 10) (.tmp 12) (.const (.bool false)))⟩, ⟨(some 2), none, (.mv (.tmp 13))⟩]) .ret))
theorem k42 : compF Tryd.prog 42 = some ⟨c42, [(.tmp 2)], 14⟩ := by kernel_rfl
theorem i42 {a0 : AV} {h : AH} {R : AE → Prop} (hw : ∀ n, h.length = n → (∀ e ∈ h, e.lt n = true) → AV.ltL n [a0] = true → AV.bdL [a0] → aw Tryd.prog n c42 (retA [(.tmp 2)] fun x h' => ∃ z, h' = h ++ z ∧ x.lt n = true ∧ R x) [a0, .any, .any, .any, .any, .any, .any, .any, .any, .any, .any, .any, .any, .any] (h ++ [])) : ACalls Tryd.prog 42 [a0] h fun x h' => h' = h ∧ R x := ACalls.into k42 rfl hw
theorem w42 {a0 : AV} {h : AH} {res : AV} (hw : ∀ n, h.length = n → (∀ e ∈ h, e.lt n = true) → AV.ltL n [a0] = true → AV.bdL [a0] → aw Tryd.prog n c42 (retA [(.tmp 2)] fun x h' => ∃ z, h' = h ++ z ∧ x.lt n = true ∧ ∃ c, x = .ret c ∧ Wk c res) [a0, .any, .any, .any, .any, .any, .any, .any, .any, .any, .any, .any, .any, .any] (h ++ [])) : ACalls Tryd.prog 42 [a0] h fun x h' => h' = h ∧ x = .ret res := ACalls.weak (ACalls.into k42 rfl hw)
theorem n42 {a0 : AV} {h : AH} {R : AE → AH → Prop} (hw : ∀ n, h.length = n → (∀ e ∈ h, e.lt n = true) → AV.ltL n [a0] = true → AV.bdL [a0] → aw Tryd.prog n c42 (retA [(.tmp 2)] R) [a0, .any, .any, .any, .any, .any, .any, .any, .any, .any, .any, .any, .any, .any] (h ++ [])) : ACalls Tryd.prog 42 [a0] h R := ACalls.intoN k42 rfl hw
theorem j42 {a0 : AV} {h : AH} {R : AE → AH → Prop} (hw : ∀ n, h.length = n → (∀ e ∈ h, e.lt n = true) → AV.ltL n [a0] = true → AV.bdL [a0] → aw Tryd.prog n c42 (retA [(.tmp 2)] fun x h' => ∃ y z, h' = y ++ z ∧ y.length = n ∧ (∀ e ∈ y, e.lt n = true) ∧ x.lt n = true ∧ R x y) [a0, .any, .any, .any, .any, .any, .any, .any, .any, .any, .any, .any, .any, .any] (h ++ [])) : ACalls Tryd.prog 42 [a0] h R := ACalls.intoG k42 rfl hw
abbrev u8v (n : Int) : AV := .v (.int .u8 n)
abbrev fnv (k : Nat) : AV := .v (.func (.func k) #[] #[])
abbrev erA (n : Int) : AV := .v (.iface 24 (.int .i64 n))
theorem lnblank_a {n : Int} {h : AH} : ACalls Tryd.prog 15 [u8v n] h fun x h' => h' = h ∧ x = .ret (bv (blkN n)) := by
  refine i15 ?_
  intro N hn hlt hlA hbd
  try simp only [AV.bdL, AV.bd, and_true, true_and] at hbd
  refine w_seq ?_
  refine w_reg ?_
  refine s_val rfl (v_mv lkb) pt2 ?_
  refine s_nil ?_
  refine n_seq ?_
  refine w_seq ?_
  refine w_reg ?_
  refine s_val rfl (v_mv lk0) pt3 ?_
  refine s_val rfl (v_eql lk3 lki) pt4 ?_
  refine s_val rfl (v_mv lk4) pt5 ?_
  first | refine s_splitP gt5 pt5 pt5 (fun hg5 => ?_) (fun hg5 => ?_) | refine s_splitB gt5 pt5 pt5 (fun hg5 => ?_) (fun hg5 => ?_)
  · skip
    refine s_no gt5 pt6 ?_
    refine s_no gt5 pt7 ?_
    refine s_val rfl (v_pickT lk5 lkb) pt8 ?_
    refine s_val rfl (v_mv lk8) pt2 ?_
    refine s_nil ?_
    refine n_seq ?_
    refine w_rets ?_
    refine w_ret (rs1 (rr_t gt2)) ?_
    refine rt (by first | rfl | (simp only [AV.lt, AV.ltL, Ent.lt, List.all_cons, List.all_nil, Bool.and_true, Bool.and_self, decide_true]; done) | (simp [AV.lt, AV.ltL, Ent.lt, *]; done) | (simp [AV.lt, AV.ltL, Ent.lt, *]; omega)) ?_
    refine bvx ?_; unfold blkN; simp_all
  · skip
    refine s_do gt5 ?_
    refine s_val rfl (v_mv lk0) pt6 ?_
    refine s_do gt5 ?_
    refine s_val rfl (v_eql lk6 lki) pt7 ?_
    refine s_val rfl (v_pickF lk5 lk7) pt8 ?_
    refine s_val rfl (v_mv lk8) pt2 ?_
    refine s_nil ?_
    refine n_seq ?_
    refine w_rets ?_
    refine w_ret (rs1 (rr_t gt2)) ?_
    refine rt (by first | rfl | (simp only [AV.lt, AV.ltL, Ent.lt, List.all_cons, List.all_nil, Bool.and_true, Bool.and_self, decide_true]; done) | (simp [AV.lt, AV.ltL, Ent.lt, *]; done) | (simp [AV.lt, AV.ltL, Ent.lt, *]; omega)) ?_
    refine bvx ?_; unfold blkN; simp_all
theorem lnplain_a {n : Int} {h : AH} : ACalls Tryd.prog 40 [u8v n] h fun x h' => h' = h ∧ x = .ret (bv (plnN n)) := by
  refine i40 ?_
  intro N hn hlt hlA hbd
  try simp only [AV.bdL, AV.bd, and_true, true_and] at hbd
  refine w_seq ?_
  refine w_reg ?_
  refine s_val rfl (v_mv lkb) pt2 ?_
  refine s_nil ?_
  refine n_seq ?_
  refine w_seq ?_
  refine w_reg ?_
  refine s_val rfl (v_mv lk0) pt3 ?_
  refine s_val rfl (v_geq lk3 lki) pt4 ?_
  refine s_val rfl (v_mv lk4) pt5 ?_
  first | refine s_splitP gt5 pt5 pt5 (fun hg5 => ?_) (fun hg5 => ?_) | refine s_splitB gt5 pt5 pt5 (fun hg5 => ?_) (fun hg5 => ?_)
  · skip
    refine s_do gt5 ?_
    refine s_val rfl (v_mv lk0) pt6 ?_
    refine s_do gt5 ?_
    refine s_val rfl (v_leq lk6 lki) pt7 ?_
    refine s_val rfl (v_pickT lk5 lk7) pt8 ?_
    refine s_val rfl (v_mv lk8) pt9 ?_
    first | refine s_splitP gt9 pt9 pt9 (fun hg9 => ?_) (fun hg9 => ?_) | refine s_splitB gt9 pt9 pt9 (fun hg9 => ?_) (fun hg9 => ?_)
    · skip
      refine s_no gt9 pt10 ?_
      refine s_no gt9 pt11 ?_
      refine s_val rfl (v_pickT lk9 lkb) pt12 ?_
      refine s_val rfl (v_mv lk12) pt2 ?_
      refine s_nil ?_
      refine n_seq ?_
      refine w_rets ?_
      refine w_ret (rs1 (rr_t gt2)) ?_
      refine rt (by first | rfl | (simp only [AV.lt, AV.ltL, Ent.lt, List.all_cons, List.all_nil, Bool.and_true, Bool.and_self, decide_true]; done) | (simp [AV.lt, AV.ltL, Ent.lt, *]; done) | (simp [AV.lt, AV.ltL, Ent.lt, *]; omega)) ?_
      refine bvx ?_; unfold plnN; rw [Bool.eq_iff_iff]; simp; omega
    · skip
      refine s_do gt9 ?_
      refine s_val rfl (v_mv lk0) pt10 ?_
      refine s_do gt9 ?_
      refine s_val rfl (v_eql lk10 lki) pt11 ?_
      refine s_val rfl (v_pickF lk9 lk11) pt12 ?_
      refine s_val rfl (v_mv lk12) pt2 ?_
      refine s_nil ?_
      refine n_seq ?_
      refine w_rets ?_
      refine w_ret (rs1 (rr_t gt2)) ?_
      refine rt (by first | rfl | (simp only [AV.lt, AV.ltL, Ent.lt, List.all_cons, List.all_nil, Bool.and_true, Bool.and_self, decide_true]; done) | (simp [AV.lt, AV.ltL, Ent.lt, *]; done) | (simp [AV.lt, AV.ltL, Ent.lt, *]; omega)) ?_
      refine bvx ?_; unfold plnN; rw [Bool.eq_iff_iff]; simp; omega
  · skip
    refine s_no gt5 pt6 ?_
    refine s_no gt5 pt7 ?_
    refine s_val rfl (v_pickF lk5 lkb) pt8 ?_
    refine s_val rfl (v_mv lk8) pt9 ?_
    refine s_do gt9 ?_
    refine s_val rfl (v_mv lk0) pt10 ?_
    refine s_do gt9 ?_
    refine s_val rfl (v_eql lk10 lki) pt11 ?_
    refine s_val rfl (v_pickF lk9 lk11) pt12 ?_
    refine s_val rfl (v_mv lk12) pt2 ?_
    refine s_nil ?_
    refine n_seq ?_
    refine w_rets ?_
    refine w_ret (rs1 (rr_t gt2)) ?_
    refine rt (by first | rfl | (simp only [AV.lt, AV.ltL, Ent.lt, List.all_cons, List.all_nil, Bool.and_true, Bool.and_self, decide_true]; done) | (simp [AV.lt, AV.ltL, Ent.lt, *]; done) | (simp [AV.lt, AV.ltL, Ent.lt, *]; omega)) ?_
    refine bvx ?_; unfold plnN; rw [Bool.eq_iff_iff]; simp; omega
theorem lnquo_a {n : Int} {h : AH} : ACalls Tryd.prog 50 [u8v n] h fun x h' => h' = h ∧ x = .ret (bv (quoP n)) := by
  refine i50 ?_
  intro N hn hlt hlA hbd
  try simp only [AV.bdL, AV.bd, and_true, true_and] at hbd
  refine w_seq ?_
  refine w_reg ?_
  refine s_val rfl (v_mv lkb) pt2 ?_
  refine s_nil ?_
  refine n_seq ?_
  refine w_seq ?_
  refine w_reg ?_
  refine s_val rfl (v_mv lk0) pt3 ?_
  refine s_val rfl (v_neq lk3 lki) pt4 ?_
  refine s_val rfl (v_mv lk4) pt2 ?_
  refine s_nil ?_
  refine n_seq ?_
  refine w_rets ?_
  refine w_ret (rs1 (rr_t gt2)) ?_
  refine rt (by first | rfl | (simp only [AV.lt, AV.ltL, Ent.lt, List.all_cons, List.all_nil, Bool.and_true, Bool.and_self, decide_true]; done) | (simp [AV.lt, AV.ltL, Ent.lt, *]; done) | (simp [AV.lt, AV.ltL, Ent.lt, *]; omega)) ?_
  rfl
theorem lnfld_a {n : Int} {h : AH} : ACalls Tryd.prog 42 [u8v n] h fun x h' => h' = h ∧ x = .ret (bv (fldP n)) := by
  refine i42 ?_
  intro N hn hlt hlA hbd
  try simp only [AV.bdL, AV.bd, and_true, true_and] at hbd
  refine w_seq ?_
  refine w_reg ?_
  refine s_val rfl (v_mv lkb) pt2 ?_
  refine s_nil ?_
  refine n_seq ?_
  refine w_seq ?_
  refine w_reg ?_
  refine s_val rfl (v_mv lk0) pt3 ?_
  refine s_callp (mp1 lk3 mp0) (lnblank_a) pt4 ?_
  refine s_val rfl (v_notB lk4) pt5 ?_
  refine s_val rfl (v_mv lk5) pt6 ?_
  refine s_splitB gt6 pt6 pt6 (fun hg6 => ?_) (fun hg6 => ?_)
  · skip
    refine s_do gt6 ?_
    refine s_val rfl (v_mv lk0) pt7 ?_
    refine s_do gt6 ?_
    refine s_val rfl (v_neq lk7 lki) pt8 ?_
    refine s_val rfl (v_pickT lk6 lk8) pt9 ?_
    refine s_val rfl (v_mv lk9) pt10 ?_
    first | refine s_splitP gt10 pt10 pt10 (fun hg10 => ?_) (fun hg10 => ?_) | refine s_splitB gt10 pt10 pt10 (fun hg10 => ?_) (fun hg10 => ?_)
    · skip
      refine s_do gt10 ?_
      refine s_val rfl (v_mv lk0) pt11 ?_
      refine s_do gt10 ?_
      refine s_val rfl (v_neq lk11 lki) pt12 ?_
      refine s_val rfl (v_pickT lk10 lk12) pt13 ?_
      refine s_val rfl (v_mv lk13) pt2 ?_
      refine s_nil ?_
      refine n_seq ?_
      refine w_rets ?_
      refine w_ret (rs1 (rr_t gt2)) ?_
      refine rt (by first | rfl | (simp only [AV.lt, AV.ltL, Ent.lt, List.all_cons, List.all_nil, Bool.and_true, Bool.and_self, decide_true]; done) | (simp [AV.lt, AV.ltL, Ent.lt, *]; done) | (simp [AV.lt, AV.ltL, Ent.lt, *]; omega)) ?_
      refine bvx ?_; unfold fldP; simp_all
    · skip
      refine s_no gt10 pt11 ?_
      refine s_no gt10 pt12 ?_
      refine s_val rfl (v_pickF lk10 lkb) pt13 ?_
      refine s_val rfl (v_mv lk13) pt2 ?_
      refine s_nil ?_
      refine n_seq ?_
      refine w_rets ?_
      refine w_ret (rs1 (rr_t gt2)) ?_
      refine rt (by first | rfl | (simp only [AV.lt, AV.ltL, Ent.lt, List.all_cons, List.all_nil, Bool.and_true, Bool.and_self, decide_true]; done) | (simp [AV.lt, AV.ltL, Ent.lt, *]; done) | (simp [AV.lt, AV.ltL, Ent.lt, *]; omega)) ?_
      refine bvx ?_; unfold fldP; simp_all
  · skip
    refine s_no gt6 pt7 ?_
    refine s_no gt6 pt8 ?_
    refine s_val rfl (v_pickF lk6 lkb) pt9 ?_
    refine s_val rfl (v_mv lk9) pt10 ?_
    refine s_no gt10 pt11 ?_
    refine s_no gt10 pt12 ?_
    refine s_val rfl (v_pickF lk10 lkb) pt13 ?_
    refine s_val rfl (v_mv lk13) pt2 ?_
    refine s_nil ?_
    refine n_seq ?_
    refine w_rets ?_
    refine w_ret (rs1 (rr_t gt2)) ?_
    refine rt (by first | rfl | (simp only [AV.lt, AV.ltL, Ent.lt, List.all_cons, List.all_nil, Bool.and_true, Bool.and_self, decide_true]; done) | (simp [AV.lt, AV.ltL, Ent.lt, *]; done) | (simp [AV.lt, AV.ltL, Ent.lt, *]; omega)) ?_
    refine bvx ?_; unfold fldP; simp_all
theorem lnfail_a {n : Int} {h : AH} : ACalls Tryd.prog 31 [iv n] h fun x h' => h' = h ∧ x = .pan (erA n) := by
  refine i31 ?_
  intro N hn hlt hlA hbd
  try simp only [AV.bdL, AV.bd, and_true, true_and] at hbd
  refine w_reg ?_
  refine s_val rfl (v_mv lk0) pt2 ?_
  refine s_val rfl (v_mkif lk2) pt3 ?_
  refine s_panic lk3 ?_
  refine w_pan ?_
  exact ⟨_, rfl, rfl, rfl⟩
theorem lnmore_a {s : ByteArray} {k : Nat} {O : AV} {id v0 ty : Nat} {h : AH} (h1 : h[id]? = some (.mk v0 ty 3 [sv s, iv (k : Int), O])) (hk : k ≤ s.size) :
    ACalls Tryd.prog 29 [.ptr id v0 0] h fun x h' => h' = h ∧ x = .ret (bv (moreL ((aB s).drop k))) := by
  refine i29 ?_
  intro N hn hlt hlA hbd
  try simp only [AV.bdL, AV.bd, and_true, true_and] at hbd
  refine w_seq ?_
  refine w_reg ?_
  refine s_val rfl (v_mv lkb) pt2 ?_
  refine s_nil ?_
  refine n_seq ?_
  refine w_seq ?_
  refine w_drwE ?_
  refine d_val rfl (v_mv lk0) pt3 ?_
  refine d_val rfl (v_nckp lk3) pt4 ?_
  refine d_val rfl (v_fap0 lk4) pt5 ?_
  refine d_val rfl (v_loadp lk5 (hx_app h1) gt1) pt6 ?_
  refine d_val rfl (v_mv lk0) pt7 ?_
  refine d_val rfl (v_nckp lk7) pt8 ?_
  refine d_val rfl (v_fap0 lk8) pt9 ?_
  refine d_val rfl (v_loadp lk9 (hx_app h1) gt0) pt10 ?_
  refine d_val rfl (v_lenS lk10) pt11 ?_
  refine d_val rfl (v_lss lk6 lk11) pt12 ?_
  refine d_val rfl (v_mv lk12) pt13 ?_
  first | refine d_splitP gt13 pt13 pt13 (fun hg13 => ?_) (fun hg13 => ?_) | refine d_splitB gt13 pt13 pt13 (fun hg13 => ?_) (fun hg13 => ?_)
  · skip
    refine d_do gt13 ?_
    refine d_val rfl (v_mv lk0) pt14 ?_
    refine d_do gt13 ?_
    refine d_val rfl (v_nckp lk14) pt15 ?_
    refine d_do gt13 ?_
    refine d_val rfl (v_fap0 lk15) pt16 ?_
    refine d_do gt13 ?_
    refine d_val rfl (v_loadp lk16 (hx_app h1) gt0) pt17 ?_
    refine d_do gt13 ?_
    refine d_val rfl (v_mv lk0) pt18 ?_
    refine d_do gt13 ?_
    refine d_val rfl (v_nckp lk18) pt19 ?_
    refine d_do gt13 ?_
    refine d_val rfl (v_fap0 lk19) pt20 ?_
    refine d_do gt13 ?_
    refine d_val rfl (v_loadp lk20 (hx_app h1) gt1) pt21 ?_
    refine d_do gt13 ?_
    refine d_val rfl (v_ix lk17 lk21 (by omega) (by omega)) pt22 ?_
    refine d_do gt13 ?_
    refine d_val rfl (v_neq lk22 lki) pt23 ?_
    refine d_val rfl (v_pickT lk13 lk23) pt24 ?_
    refine d_val rfl (v_mv lk24) pt2 ?_
    refine d_nil ?_
    refine e_nil ?_
    refine s_nil ?_
    refine n_seq ?_
    refine w_rets ?_
    refine w_ret (rs1 (rr_t gt2)) ?_
    refine rt (by first | rfl | (simp only [AV.lt, AV.ltL, Ent.lt, List.all_cons, List.all_nil, Bool.and_true, Bool.and_self, decide_true]; done) | (simp [AV.lt, AV.ltL, Ent.lt, *]; done) | (simp [AV.lt, AV.ltL, Ent.lt, *]; omega)) ?_
    refine bvx ?_; rw [moreL_at]; first | (simp_all; done) | (simp_all; omega)
  · skip
    refine d_no gt13 pt14 ?_
    refine d_no gt13 pt15 ?_
    refine d_no gt13 pt16 ?_
    refine d_no gt13 pt17 ?_
    refine d_no gt13 pt18 ?_
    refine d_no gt13 pt19 ?_
    refine d_no gt13 pt20 ?_
    refine d_no gt13 pt21 ?_
    refine d_no gt13 pt22 ?_
    refine d_no gt13 pt23 ?_
    refine d_val rfl (v_pickF lk13 lkb) pt24 ?_
    refine d_val rfl (v_mv lk24) pt2 ?_
    refine d_nil ?_
    refine e_nil ?_
    refine s_nil ?_
    refine n_seq ?_
    refine w_rets ?_
    refine w_ret (rs1 (rr_t gt2)) ?_
    refine rt (by first | rfl | (simp only [AV.lt, AV.ltL, Ent.lt, List.all_cons, List.all_nil, Bool.and_true, Bool.and_self, decide_true]; done) | (simp [AV.lt, AV.ltL, Ent.lt, *]; done) | (simp [AV.lt, AV.ltL, Ent.lt, *]; omega)) ?_
    refine bvx ?_; rw [moreL_at]; first | (simp_all; done) | (simp_all; omega)
def runN (p : Int → Bool) : Bs → Nat
  | [] => 0
  | c :: l => if p c.toNat = true ∧ plnN c.toNat = true then runN p l + 1 else 0
theorem runN_end {p : Int → Bool} {s : ByteArray} {k : Nat} (h : s.size ≤ k) : runN p ((aB s).drop k) = 0 := by rw [aB_end h]; rfl
theorem runN_stop {p : Int → Bool} {s : ByteArray} {k : Nat} (h : k < s.size) (hp : ¬ (p (byteAt s k).toNat = true ∧ plnN (byteAt s k).toNat = true)) : runN p ((aB s).drop k) = 0 := by
  rw [aB_at h, runN, if_neg hp]
theorem runN_go {p : Int → Bool} {s : ByteArray} {k : Nat} (h : k < s.size) (hp : p (byteAt s k).toNat = true) (hq : plnN (byteAt s k).toNat = true) : runN p ((aB s).drop k) = runN p ((aB s).drop (k + 1)) + 1 := by
  rw [aB_at h, runN, if_pos ⟨hp, hq⟩]
theorem runN_of {p : Int → Bool} : ∀ {l : Bs} {n : Nat}, runL p l = some n → runN p l = n
  | [], n, h => by simp [runL] at h; subst h; rfl
  | c :: l, n, h => by
    unfold runL at h
    split at h
    · rename_i hp
      split at h
      · rename_i hq
        rw [Option.map_eq_some_iff] at h
        obtain ⟨m, hm, rfl⟩ := h
        rw [runN, if_pos ⟨hp, hq⟩, runN_of hm]
      · cases h
    · rename_i hp
      simp at h; subst h
      rw [runN, if_neg (fun e => hp e.1)]
theorem lnrun_any {p : Int → Bool} {f : Nat} (hp : ∀ (n : Int) (h : AH), ACalls Tryd.prog f [u8v n] h fun x h' => h' = h ∧ x = .ret (bv (p n))) {s : ByteArray} {k : Nat} {O : AV} {id v0 ty : Nat} {h : AH} (h1 : h[id]? = some (.mk v0 ty 3 [sv s, iv (k : Int), O])) (hO : O.lt h.length = true) (hk : k ≤ s.size) (hz : s.size ≤ 8000) :
    ACalls Tryd.prog 28 [.ptr id v0 0, fnv f] h fun x h' => h' = h.set id (.mk v0 ty 3 [sv s, iv ((k + runN p ((aB s).drop k) : Nat) : Int), O]) ∧ ((runL p ((aB s).drop k) = some (runN p ((aB s).drop k)) ∧ x = .ret (sv (bA (((aB s).drop k).take (runN p ((aB s).drop k)))))) ∨ (runL p ((aB s).drop k) = none ∧ x = .pan (erA 1))) := by
  have hid : id < h.length := (List.getElem?_eq_some_iff.1 h1).1
  refine j28 ?_
  intro N hn hlt hlA hbd
  try simp only [AV.bdL, AV.bd, and_true, true_and] at hbd
  rw [hn] at hO
  refine aw_heap (h1 := h.set id (.mk v0 ty 3 [sv s, iv (k : Int), O]) ++ []) (by rw [hx_self h1]) ?_
  refine w_seq ?_
  refine w_reg ?_
  refine s_val rfl (v_mv lks) pt4 ?_
  refine s_nil ?_
  refine n_seq ?_
  refine w_seq ?_
  refine w_reg ?_
  refine s_val rfl (v_mv lk0) pt6 ?_
  refine s_val rfl (v_nckp lk6) pt7 ?_
  refine s_val rfl (v_fap0 lk7) pt8 ?_
  refine s_val rfl (v_loadp lk8 (hx_at hid) gt1) pt9 ?_
  refine s_val rfl (v_mv lk9) pt5 ?_
  refine s_nil ?_
  refine n_seq ?_
  refine w_seq ?_
  refine w_block ?_
  refine w_loopH (ι := Nat) (fun (j : Nat) => [(5, iv (k : Int)), (10, .any), (11, .any), (12, .any), (13, .any), (14, .any), (15, .any), (16, .any), (17, .any), (18, .any), (19, .any), (20, .any), (21, .any), (22, .any), (23, .any), (24, .any), (25, .any), (26, .any), (27, .any), (28, .any), (29, .any), (30, .any), (31, .any), (32, .any), (33, .any), (34, .any), (35, .any), (36, .any), (37, .any), (38, .any), (39, .any), (40, .any), (41, .any), (42, .any), (43, .any), (44, .any), (45, .any), (46, .any), (47, .any), (48, .any), (49, .any), (50, .any), (51, .any)]) (fun (j : Nat) => h.set id (.mk v0 ty 3 [sv s, iv ((k + j : Nat) : Int), O]) ++ []) (fun (j : Nat) => k + j ≤ s.size ∧ runL p ((aB s).drop k) = (runL p ((aB s).drop (k + j))).map (· + j) ∧ runN p ((aB s).drop k) = runN p ((aB s).drop (k + j)) + j) (fun (j : Nat) => s.size - (k + j)) (0) (by exact ⟨by omega, by simp, by simp⟩) (by try simp only [setsT, setsE, List.set_cons_zero, List.set_cons_succ]; exact ALe.same (wk1 rfl (wk1 rfl (wk1 rfl (wk1 rfl (wk1 rfl (wk1 (by first | rfl | exact ivx (by omega) | (simp; done)) (wk1 rfl (wk1 rfl (wk1 rfl (wk1 rfl (wka (wka (wka (wka (wka (wka (wka (wka (wka (wka (wka (wka (wka (wka (wka (wka (wka (wka (wka (wka (wka (wka (wka (wka (wka (wka (wka (wka (wka (wka (wka (wka (wka (wka (wka (wka (wka (wka (wka (wka (wka (wka (wk1 rfl (wk1 rfl (wk1 rfl (wk1 rfl (wk1 rfl (wk1 rfl (wk1 rfl (wk1 rfl (wk1 rfl (wk1 rfl wk0)))))))))))))))))))))))))))))))))))))))))))))))))))))))))))))) (by simp)) ?_
  rintro j hi1
  try simp only [setsT, setsE, List.set_cons_zero, List.set_cons_succ]
  obtain ⟨hj1, hj2, hj3⟩ := hi1
  refine w_seq ?_
  refine w_seq ?_
  refine w_drwE ?_
  refine d_val rfl (v_mv lk0) pt10 ?_
  refine d_val rfl (v_nckp lk10) pt11 ?_
  refine d_val rfl (v_fap0 lk11) pt12 ?_
  refine d_val rfl (v_loadp lk12 (hx_at hid) gt1) pt13 ?_
  refine d_val rfl (v_mv lk0) pt14 ?_
  refine d_val rfl (v_nckp lk14) pt15 ?_
  refine d_val rfl (v_fap0 lk15) pt16 ?_
  refine d_val rfl (v_loadp lk16 (hx_at hid) gt0) pt17 ?_
  refine d_val rfl (v_lenS lk17) pt18 ?_
  refine d_val rfl (v_lss lk13 lk18) pt19 ?_
  refine d_val rfl (v_mv lk19) pt20 ?_
  first | refine d_splitP gt20 pt20 pt20 (fun hg20 => ?_) (fun hg20 => ?_) | refine d_splitB gt20 pt20 pt20 (fun hg20 => ?_) (fun hg20 => ?_)
  · skip
    have hlt2 : k + j < s.size := by omega
    refine d_do gt20 ?_
    refine d_val rfl (v_mv lk1) pt21 ?_
    refine d_do gt20 ?_
    refine d_val rfl (v_mv lk0) pt22 ?_
    refine d_do gt20 ?_
    refine d_val rfl (v_nckp lk22) pt23 ?_
    refine d_do gt20 ?_
    refine d_val rfl (v_fap0 lk23) pt24 ?_
    refine d_do gt20 ?_
    refine d_val rfl (v_loadp lk24 (hx_at hid) gt0) pt25 ?_
    refine d_do gt20 ?_
    refine d_val rfl (v_mv lk0) pt26 ?_
    refine d_do gt20 ?_
    refine d_val rfl (v_nckp lk26) pt27 ?_
    refine d_do gt20 ?_
    refine d_val rfl (v_fap0 lk27) pt28 ?_
    refine d_do gt20 ?_
    refine d_val rfl (v_loadp lk28 (hx_at hid) gt1) pt29 ?_
    refine d_do gt20 ?_
    refine d_val rfl (v_ix lk25 lk29 (by omega) (by omega)) pt30 ?_
    refine d_do gt20 ?_
    refine d_callT lk21 (mp1 lk30 mp0) (fun hE hX => hp _ _) pt31 ?_
    refine d_val rfl (v_pickT lk20 lk31) pt32 ?_
    refine d_nil ?_
    refine e_nil ?_
    refine s_nil ?_
    refine n_seq ?_
    refine w_condB lk32 (fun hc1 => ?_) (fun hc1 => ?_)
    · skip
      have hc1' : p (byteAt s (k + j)).toNat = true := hc1
      refine w_skip ?_
      refine n_seq ?_
      refine w_block ?_
      refine w_seq ?_
      refine w_seq ?_
      refine w_drwE ?_
      refine d_val rfl (v_mv lk0) pt33 ?_
      refine d_val rfl (v_nckp lk33) pt34 ?_
      refine d_val rfl (v_fap0 lk34) pt35 ?_
      refine d_val rfl (v_loadp lk35 (hx_at hid) gt0) pt36 ?_
      refine d_val rfl (v_mv lk0) pt37 ?_
      refine d_val rfl (v_nckp lk37) pt38 ?_
      refine d_val rfl (v_fap0 lk38) pt39 ?_
      refine d_val rfl (v_loadp lk39 (hx_at hid) gt1) pt40 ?_
      refine d_val rfl (v_ix lk36 lk40 (by omega) (by omega)) pt41 ?_
      refine d_callp (mp1 lk41 mp0) (fun hE hX => lnplain_a) pt42 ?_
      refine d_val rfl (v_notB lk42) pt43 ?_
      refine d_nil ?_
      refine e_nil ?_
      refine s_nil ?_
      refine n_seq ?_
      refine w_condB lk43 (fun hc2 => ?_) (fun hc2 => ?_)
      · skip
        have hc2' : plnN (byteAt s (k + j)).toNat = false := by have := hc2; rw [Bool.not_eq_true'] at this; exact this
        have hB1 := runL_bad hlt2 hc1' hc2'
        have hB2 : runN p ((aB s).drop (k + j)) = 0 := runN_stop hlt2 (by simp [hc2'])
        rw [hB1] at hj2
        rw [hB2] at hj3
        refine w_reg ?_
        refine s_callPan' (mp1 lki mp0) (lnfail_a) ?_
        refine p_thn ?_
        refine p_blk ?_
        refine p_thn ?_
        refine p_blk ?_
        refine p_thn ?_
        refine w_pan ?_
        refine ⟨_, _, rfl, hx_len hn, hx_lt hlt (by simp [Ent.lt, AV.lt, AV.ltL, *]), rfl, by rw [hj3, Nat.zero_add], .inr ⟨by rw [hj2]; rfl, rfl⟩⟩
      · skip
        have hc2' : plnN (byteAt s (k + j)).toNat = true := by have := hc2; rw [Bool.not_eq_false'] at this; exact this
        have hG1 := runL_go hlt2 hc1' hc2'
        have hG2 := runN_go hlt2 hc1' hc2'
        rw [hG1] at hj2
        rw [hG2] at hj3
        refine w_skip ?_
        refine n_seq ?_
        refine w_reg ?_
        refine s_val rfl (v_mv lk0) pt45 ?_
        refine s_val rfl (v_nckp lk45) pt46 ?_
        refine s_val rfl (v_fap0 lk46) pt47 ?_
        refine s_val rfl (v_loadp lk47 (hx_at hid) gt1) pt48 ?_
        refine s_val rfl (v_add lk48 lki (by omega) (by omega)) pt49 ?_
        refine s_val rfl (v_nckp lk45) pt50 ?_
        refine s_val rfl (v_fap0 lk50) pt51 ?_
        refine s_eff rfl rfl (e_store lk51 (cvl lk49 rfl) (hx_at hid) rfl (Nat.le_of_ble_eq_true rfl) rfl LineA_sc1_1 (hx_set hid)) ptn ?_
        refine s_nil ?_
        refine n_blk ?_
        refine n_thn ?_
        refine LoopTo.mk (j + 1) (by omega) (by (try dsimp only); exact ⟨by omega, by rw [hj2, Option.map_map]; rw [show k + (j + 1) = k + j + 1 from rfl]; congr 1; funext x; simp; omega, by rw [show k + (j + 1) = k + j + 1 from rfl]; omega⟩) (by (try dsimp only); (try simp only [setsT, setsE, List.set_cons_zero, List.set_cons_succ]); exact ALe.same (wk1 rfl (wk1 rfl (wk1 rfl (wk1 rfl (wk1 rfl (wk1 (by first | rfl | exact ivx (by omega) | (simp; done)) (wk1 rfl (wk1 rfl (wk1 rfl (wk1 rfl (wka (wka (wka (wka (wka (wka (wka (wka (wka (wka (wka (wka (wka (wka (wka (wka (wka (wka (wka (wka (wka (wka (wka (wka (wka (wka (wka (wka (wka (wka (wka (wka (wka (wka (wka (wka (wka (wka (wka (wka (wka (wka (wk1 rfl (wk1 rfl (wk1 rfl (wk1 rfl (wk1 rfl (wk1 rfl (wk1 rfl (wk1 rfl (wk1 rfl (wk1 rfl wk0)))))))))))))))))))))))))))))))))))))))))))))))))))))))))))))) (by rw [show (((k + j : Nat) : Int) + 1) = ((k + (j + 1) : Nat) : Int) by omega]))
    · skip
      have hc1' : p (byteAt s (k + j)).toNat = false := hc1
      have hE : runL p ((aB s).drop (k + j)) = some 0 ∧ runN p ((aB s).drop (k + j)) = 0 := ⟨runL_stop hlt2 hc1', runN_stop hlt2 (by simp [hc1'])⟩
      refine w_exit ?_
      refine x_thn ?_
      refine x_thn ?_
      refine x_blk ?_
      refine n_seq ?_
      refine w_seq ?_
      refine w_drwE ?_
      refine d_val rfl (v_mv lk0) pt52 ?_
      refine d_val rfl (v_nckp lk52) pt53 ?_
      refine d_val rfl (v_fap0 lk53) pt54 ?_
      refine d_val rfl (v_loadp lk54 (hx_at hid) gt0) pt55 ?_
      refine d_val rfl (v_mv lk5) pt56 ?_
      refine d_val rfl (v_mv lk0) pt57 ?_
      refine d_val rfl (v_nckp lk57) pt58 ?_
      refine d_val rfl (v_fap0 lk58) pt59 ?_
      refine d_val rfl (v_loadp lk59 (hx_at hid) gt1) pt60 ?_
      refine d_val rfl (v_sls lk55 (oi lk56) (oi lk60) (by omega) (by omega) (by omega)) pt61 ?_
      refine d_val rfl (v_mv lk61) pt4 ?_
      refine d_nil ?_
      refine e_nil ?_
      refine s_nil ?_
      refine n_seq ?_
      refine w_rets ?_
      refine w_ret (rs1 (rr_t gt4)) ?_
      rw [hE.1] at hj2; rw [hE.2, Nat.zero_add] at hj3
      refine ⟨_, _, rfl, hx_len hn, hx_lt hlt (by simp [Ent.lt, AV.lt, AV.ltL, *]), rfl, by rw [hj3], .inl ⟨by rw [hj2, hj3]; simp, ?_⟩⟩
      rw [hj3, bA_ext, show ((k : Int)).toNat = k from rfl, show (((k + j : Nat) : Int)).toNat = k + j from rfl, Nat.add_sub_cancel_left]
  · skip
    have hE : runL p ((aB s).drop (k + j)) = some 0 ∧ runN p ((aB s).drop (k + j)) = 0 := ⟨runL_end (by omega), runN_end (by omega)⟩
    refine d_no gt20 pt21 ?_
    refine d_no gt20 pt22 ?_
    refine d_no gt20 pt23 ?_
    refine d_no gt20 pt24 ?_
    refine d_no gt20 pt25 ?_
    refine d_no gt20 pt26 ?_
    refine d_no gt20 pt27 ?_
    refine d_no gt20 pt28 ?_
    refine d_no gt20 pt29 ?_
    refine d_no gt20 pt30 ?_
    refine d_no gt20 pt31 ?_
    refine d_val rfl (v_pickF lk20 lkb) pt32 ?_
    refine d_nil ?_
    refine e_nil ?_
    refine s_nil ?_
    refine n_seq ?_
    refine w_condF lk32 ?_
    refine w_exit ?_
    refine x_thn ?_
    refine x_thn ?_
    refine x_blk ?_
    refine n_seq ?_
    refine w_seq ?_
    refine w_drwE ?_
    refine d_val rfl (v_mv lk0) pt52 ?_
    refine d_val rfl (v_nckp lk52) pt53 ?_
    refine d_val rfl (v_fap0 lk53) pt54 ?_
    refine d_val rfl (v_loadp lk54 (hx_at hid) gt0) pt55 ?_
    refine d_val rfl (v_mv lk5) pt56 ?_
    refine d_val rfl (v_mv lk0) pt57 ?_
    refine d_val rfl (v_nckp lk57) pt58 ?_
    refine d_val rfl (v_fap0 lk58) pt59 ?_
    refine d_val rfl (v_loadp lk59 (hx_at hid) gt1) pt60 ?_
    refine d_val rfl (v_sls lk55 (oi lk56) (oi lk60) (by omega) (by omega) (by omega)) pt61 ?_
    refine d_val rfl (v_mv lk61) pt4 ?_
    refine d_nil ?_
    refine e_nil ?_
    refine s_nil ?_
    refine n_seq ?_
    refine w_rets ?_
    refine w_ret (rs1 (rr_t gt4)) ?_
    rw [hE.1] at hj2; rw [hE.2, Nat.zero_add] at hj3
    refine ⟨_, _, rfl, hx_len hn, hx_lt hlt (by simp [Ent.lt, AV.lt, AV.ltL, *]), rfl, by rw [hj3], .inl ⟨by rw [hj2, hj3]; simp, ?_⟩⟩
    rw [hj3, bA_ext, show ((k : Int)).toNat = k from rfl, show (((k + j : Nat) : Int)).toNat = k + j from rfl, Nat.add_sub_cancel_left]
theorem lnrun_a {p : Int → Bool} {f : Nat} (hp : ∀ (n : Int) (h : AH), ACalls Tryd.prog f [u8v n] h fun x h' => h' = h ∧ x = .ret (bv (p n))) {s : ByteArray} {k n : Nat} {O : AV} {id v0 ty : Nat} {h : AH} (hr : runL p ((aB s).drop k) = some n) (h1 : h[id]? = some (.mk v0 ty 3 [sv s, iv (k : Int), O])) (hO : O.lt h.length = true) (hk : k ≤ s.size) (hz : s.size ≤ 8000) :
    ACalls Tryd.prog 28 [.ptr id v0 0, fnv f] h fun x h' => x = .ret (sv (bA (((aB s).drop k).take n))) ∧ h' = h.set id (.mk v0 ty 3 [sv s, iv ((k + n : Nat) : Int), O]) := by
  refine (lnrun_any hp h1 hO hk hz).mono ?_
  rintro x h' ⟨rfl, ⟨h3, rfl⟩ | ⟨h3, rfl⟩⟩
  · rw [runN_of hr]; exact ⟨rfl, rfl⟩
  · rw [h3] at hr; cases hr
theorem lnrun_p {p : Int → Bool} {f : Nat} (hp : ∀ (n : Int) (h : AH), ACalls Tryd.prog f [u8v n] h fun x h' => h' = h ∧ x = .ret (bv (p n))) {s : ByteArray} {k : Nat} {O : AV} {id v0 ty : Nat} {h : AH} (hr : runL p ((aB s).drop k) = none) (h1 : h[id]? = some (.mk v0 ty 3 [sv s, iv (k : Int), O])) (hO : O.lt h.length = true) (hk : k ≤ s.size) (hz : s.size ≤ 8000) :
    ACalls Tryd.prog 28 [.ptr id v0 0, fnv f] h fun x h' => x = .pan (erA 1) ∧ h' = h.set id (.mk v0 ty 3 [sv s, iv ((k + runN p ((aB s).drop k) : Nat) : Int), O]) := by
  refine (lnrun_any hp h1 hO hk hz).mono ?_
  rintro x h' ⟨rfl, ⟨h3, rfl⟩ | ⟨h3, rfl⟩⟩
  · rw [h3] at hr; cases hr
  · exact ⟨rfl, rfl⟩
theorem fieldL_q {s : ByteArray} {k : Nat} (hk : k < s.size) (hq : ((byteAt s k).toNat : Int) = 34) : fieldL ((aB s).drop k) = match runL quoP ((aB s).drop (k + 1)) with
      | none => none
      | some n => if k + 1 + n = s.size then none else if moreL ((aB s).drop (k + n + 2)) = true ∧ blkN (headN ((aB s).drop (k + n + 2))) = false then none else some (1, n, n + 2) := by
  rw [aB_at hk, fieldL, if_pos hq]
  cases hr : runL quoP ((aB s).drop (k + 1)) with
  | none => rfl
  | some n =>
    have hle := runL_le hr
    have hl : ((aB s).drop (k + 1)).length = s.size - (k + 1) := by rw [List.length_drop, aB_len]
    simp only [hl, List.drop_drop, show k + 1 + (n + 1) = k + n + 2 by omega]
    by_cases h : k + 1 + n = s.size
    · rw [if_pos (by omega), if_pos h]
    · rw [if_neg (by omega), if_neg h]
theorem fieldL_f {s : ByteArray} {k : Nat} (hk : k < s.size) (hq : ¬ ((byteAt s k).toNat : Int) = 34) : fieldL ((aB s).drop k) = match runL fldP ((aB s).drop k) with
      | none => none
      | some n => if moreL ((aB s).drop (k + n)) = true ∧ headN ((aB s).drop (k + n)) = 34 then none else some (0, n, n) := by
  conv => lhs; rw [aB_at hk, fieldL, if_neg hq, ← aB_at hk]
  simp only [List.drop_drop]
  cases runL fldP ((aB s).drop k) <;> rfl
theorem no_some {α : Type} {x : Option α} (h : ¬ ∃ n, x = some n) : x = none := by
  cases x with
  | none => rfl
  | some n => exact absurd ⟨n, rfl⟩ h
def fdR (s : ByteArray) (k v0 ty id : Nat) (O : AV) (h : AH) (x : AE) (h' : AH) : Prop :=
  (∃ y, fieldL ((aB s).drop k) = some y ∧ x = .ret (sv (cutF ((aB s).drop k) y)) ∧ h' = h.set id (.mk v0 ty 3 [sv s, iv ((k + y.2.2 : Nat) : Int), O])) ∨
  (fieldL ((aB s).drop k) = none ∧ x = .pan (erA 1) ∧ ∃ m : Nat, h' = h.set id (.mk v0 ty 3 [sv s, iv (m : Int), O]))
theorem lnquoted_any {s : ByteArray} {k : Nat} {O : AV} {id v0 ty : Nat} {h : AH} (h1 : h[id]? = some (.mk v0 ty 3 [sv s, iv (k : Int), O])) (hO : O.lt h.length = true) (hk : k < s.size) (hz : s.size ≤ 8000) (hq : ((byteAt s k).toNat : Int) = 34) :
    ACalls Tryd.prog 41 [.ptr id v0 0] h (fdR s k v0 ty id O h) := by
  have hid : id < h.length := (List.getElem?_eq_some_iff.1 h1).1
  have hF := fieldL_q hk hq
  have hL : ((aB s).drop (k + 1)).length = s.size - (k + 1) := by rw [List.length_drop, aB_len]
  refine j41 ?_
  intro N hn hlt hlA hbd
  try simp only [AV.bdL, AV.bd, and_true, true_and] at hbd
  rw [hn] at hO
  refine aw_heap (h1 := h.set id (.mk v0 ty 3 [sv s, iv (k : Int), O]) ++ []) (by rw [hx_self h1]) ?_
  refine w_seq ?_
  refine w_reg ?_
  refine s_val rfl (v_mv lks) pt2 ?_
  refine s_nil ?_
  refine n_seq ?_
  refine w_seq ?_
  refine w_reg ?_
  refine s_val rfl (v_mv lk0) pt4 ?_
  refine s_val rfl (v_nckp lk4) pt5 ?_
  refine s_val rfl (v_fap0 lk5) pt6 ?_
  refine s_val rfl (v_loadp lk6 (hx_at hid) gt1) pt7 ?_
  refine s_val rfl (v_add lk7 lki (by omega) (by omega)) pt8 ?_
  refine s_val rfl (v_nckp lk4) pt9 ?_
  refine s_val rfl (v_fap0 lk9) pt10 ?_
  refine s_eff rfl rfl (e_store lk10 (cvl lk8 rfl) (hx_at hid) rfl (Nat.le_of_ble_eq_true rfl) rfl LineA_sc1_1 (hx_set hid)) ptn ?_
  refine s_nil ?_
  refine n_seq ?_
  rw [show ((k : Int) + 1) = ((k + 1 : Nat) : Int) by omega]
  refine w_seq ?_
  refine w_reg ?_
  refine s_val rfl (v_mv lk0) pt11 ?_
  by_cases hs11 : ∃ n, runL quoP ((aB s).drop (k + 1)) = some n
  · skip
    obtain ⟨n, hr⟩ := hs11
    have hle := runL_le hr
    rw [hr] at hF
    simp only at hF
    refine s_calls (mp1 lk11 (mp1 lkf mp0)) (lnrun_a (fun _ _ => lnquo_a) hr (hx_at hid) (by simp [(hx_len hn)]; exact hO) hk hz) (hx_set hid) pt12 ?_
    refine s_val rfl (v_mv lk12) pt3 ?_
    refine s_nil ?_
    refine n_seq ?_
    refine w_seq ?_
    refine w_seq ?_
    refine w_drwE ?_
    refine d_val rfl (v_mv lk0) pt13 ?_
    refine d_val rfl (v_nckp lk13) pt14 ?_
    refine d_val rfl (v_fap0 lk14) pt15 ?_
    refine d_val rfl (v_loadp lk15 (hx_at hid) gt1) pt16 ?_
    refine d_val rfl (v_mv lk0) pt17 ?_
    refine d_val rfl (v_nckp lk17) pt18 ?_
    refine d_val rfl (v_fap0 lk18) pt19 ?_
    refine d_val rfl (v_loadp lk19 (hx_at hid) gt0) pt20 ?_
    refine d_val rfl (v_lenS lk20) pt21 ?_
    refine d_val rfl (v_eql lk16 lk21) pt22 ?_
    refine d_nil ?_
    refine e_nil ?_
    refine s_nil ?_
    refine n_seq ?_
    first | refine w_cond lk22 (fun hc1 => ?_) (fun hc1 => ?_) | refine w_condB lk22 (fun hc1 => ?_) (fun hc1 => ?_)
    · skip
      rw [if_pos (by omega)] at hF
      refine w_reg ?_
      refine s_callPan' (mp1 lki mp0) (lnfail_a) ?_
      refine p_thn ?_
      refine w_pan ?_
      exact ⟨_, _, rfl, hx_len hn, hx_lt hlt (by simp [Ent.lt, AV.lt, AV.ltL, *]), rfl, .inr ⟨hF, rfl, _, rfl⟩⟩
    · skip
      rw [if_neg (by omega)] at hF
      have hlt2 : k + n + 2 ≤ s.size := by omega
      refine w_skip ?_
      refine n_seq ?_
      refine w_seq ?_
      refine w_reg ?_
      refine s_val rfl (v_mv lk0) pt24 ?_
      refine s_val rfl (v_nckp lk24) pt25 ?_
      refine s_val rfl (v_fap0 lk25) pt26 ?_
      refine s_val rfl (v_loadp lk26 (hx_at hid) gt1) pt27 ?_
      refine s_val rfl (v_add lk27 lki (by omega) (by omega)) pt28 ?_
      refine s_val rfl (v_nckp lk24) pt29 ?_
      refine s_val rfl (v_fap0 lk29) pt30 ?_
      refine s_eff rfl rfl (e_store lk30 (cvl lk28 rfl) (hx_at hid) rfl (Nat.le_of_ble_eq_true rfl) rfl LineA_sc1_1 (hx_set hid)) ptn ?_
      refine s_nil ?_
      refine n_seq ?_
      rw [show (((k + 1 + n : Nat) : Int) + 1) = ((k + n + 2 : Nat) : Int) by omega]
      refine w_seq ?_
      refine w_seq ?_
      refine w_drwE ?_
      refine d_val rfl (v_mv lk0) pt31 ?_
      refine d_callp (mp1 lk31 mp0) (fun hE hX => lnmore_a (hX _ _ (hx_at hid)) hlt2) pt32 ?_
      refine d_val rfl (v_mv lk32) pt33 ?_
      refine d_splitB gt33 pt33 pt33 (fun hg33 => ?_) (fun hg33 => ?_)
      · skip
        have hm := hg33; rw [moreL_at] at hm; simp only [Bool.and_eq_true, decide_eq_true_eq] at hm
        have hh := headN_at hm.1
        refine d_do gt33 ?_
        refine d_val rfl (v_mv lk0) pt34 ?_
        refine d_do gt33 ?_
        refine d_val rfl (v_nckp lk34) pt35 ?_
        refine d_do gt33 ?_
        refine d_val rfl (v_fap0 lk35) pt36 ?_
        refine d_do gt33 ?_
        refine d_val rfl (v_loadp lk36 (hx_at hid) gt0) pt37 ?_
        refine d_do gt33 ?_
        refine d_val rfl (v_mv lk0) pt38 ?_
        refine d_do gt33 ?_
        refine d_val rfl (v_nckp lk38) pt39 ?_
        refine d_do gt33 ?_
        refine d_val rfl (v_fap0 lk39) pt40 ?_
        refine d_do gt33 ?_
        refine d_val rfl (v_loadp lk40 (hx_at hid) gt1) pt41 ?_
        refine d_do gt33 ?_
        refine d_val rfl (v_ix lk37 lk41 (by omega) (by omega)) pt42 ?_
        refine d_do gt33 ?_
        refine d_callp (mp1 lk42 mp0) (fun hE hX => lnblank_a) pt43 ?_
        refine d_do gt33 ?_
        refine d_val rfl (v_notB lk43) pt44 ?_
        refine d_val rfl (v_pickT lk33 lk44) pt45 ?_
        refine d_nil ?_
        refine e_nil ?_
        refine s_nil ?_
        refine n_seq ?_
        refine w_condB lk45 (fun hc2 => ?_) (fun hc2 => ?_)
        · skip
          rw [if_pos ⟨hg33, by rw [hh]; have := hc2; rw [Bool.not_eq_true'] at this; exact this⟩] at hF
          refine w_reg ?_
          refine s_callPan' (mp1 lki mp0) (lnfail_a) ?_
          refine p_thn ?_
          refine w_pan ?_
          exact ⟨_, _, rfl, hx_len hn, hx_lt hlt (by simp [Ent.lt, AV.lt, AV.ltL, *]), rfl, .inr ⟨hF, rfl, _, rfl⟩⟩
        · skip
          rw [if_neg (fun e => by have := hc2; rw [Bool.not_eq_false'] at this; rw [hh] at e; exact absurd (this.symm.trans e.2) (by decide))] at hF
          refine w_skip ?_
          refine n_seq ?_
          refine w_seq ?_
          refine w_reg ?_
          refine s_val rfl (v_mv lk3) pt47 ?_
          refine s_val rfl (v_mv lk47) pt2 ?_
          refine s_nil ?_
          refine n_seq ?_
          refine w_rets ?_
          refine w_ret (rs1 (rr_t gt2)) ?_
          exact ⟨_, _, rfl, hx_len hn, hx_lt hlt (by simp [Ent.lt, AV.lt, AV.ltL, *]), rfl, .inl ⟨_, hF, by simp [cutF], by simp [Nat.add_assoc]⟩⟩
      · skip
        rw [if_neg (by rw [hg33]; simp)] at hF
        refine d_no gt33 pt34 ?_
        refine d_no gt33 pt35 ?_
        refine d_no gt33 pt36 ?_
        refine d_no gt33 pt37 ?_
        refine d_no gt33 pt38 ?_
        refine d_no gt33 pt39 ?_
        refine d_no gt33 pt40 ?_
        refine d_no gt33 pt41 ?_
        refine d_no gt33 pt42 ?_
        refine d_no gt33 pt43 ?_
        refine d_no gt33 pt44 ?_
        refine d_val rfl (v_pickF lk33 lkb) pt45 ?_
        refine d_nil ?_
        refine e_nil ?_
        refine s_nil ?_
        refine n_seq ?_
        refine w_condF lk45 ?_
        refine w_skip ?_
        refine n_seq ?_
        refine w_seq ?_
        refine w_reg ?_
        refine s_val rfl (v_mv lk3) pt47 ?_
        refine s_val rfl (v_mv lk47) pt2 ?_
        refine s_nil ?_
        refine n_seq ?_
        refine w_rets ?_
        refine w_ret (rs1 (rr_t gt2)) ?_
        exact ⟨_, _, rfl, hx_len hn, hx_lt hlt (by simp [Ent.lt, AV.lt, AV.ltL, *]), rfl, .inl ⟨_, hF, by simp [cutF], by simp [Nat.add_assoc]⟩⟩
  · skip
    have hr := no_some hs11
    rw [hr] at hF
    refine s_callPan (mp1 lk11 (mp1 lkf mp0)) (lnrun_p (fun _ _ => lnquo_a) hr (hx_at hid) (by simp [(hx_len hn)]; exact hO) hk hz) ?_
    refine p_thn ?_
    refine w_pan ?_
    rw [hx_set hid]; exact ⟨_, _, rfl, hx_len hn, hx_lt hlt (by simp [Ent.lt, AV.lt, AV.ltL, *]), rfl, .inr ⟨hF, rfl, _, rfl⟩⟩
theorem lnquoted_a {s : ByteArray} {k : Nat} {O : AV} {y : Nat × Nat × Nat} {id v0 ty : Nat} {h : AH} (hf : fieldL ((aB s).drop k) = some y) (h1 : h[id]? = some (.mk v0 ty 3 [sv s, iv (k : Int), O])) (hO : O.lt h.length = true) (hk : k < s.size) (hz : s.size ≤ 8000) (hq : ((byteAt s k).toNat : Int) = 34) :
    ACalls Tryd.prog 41 [.ptr id v0 0] h fun x h' => x = .ret (sv (cutF ((aB s).drop k) y)) ∧ h' = h.set id (.mk v0 ty 3 [sv s, iv ((k + y.2.2 : Nat) : Int), O]) := by
  refine (lnquoted_any h1 hO hk hz hq).mono ?_
  rintro x h' (⟨z, e, h2, h3⟩ | ⟨e, _⟩) <;> rw [e] at hf <;> cases hf
  exact ⟨h2, h3⟩
theorem lnquoted_p {s : ByteArray} {k : Nat} {O : AV} {id v0 ty : Nat} {h : AH} (hf : fieldL ((aB s).drop k) = none) (h1 : h[id]? = some (.mk v0 ty 3 [sv s, iv (k : Int), O])) (hO : O.lt h.length = true) (hk : k < s.size) (hz : s.size ≤ 8000) (hq : ((byteAt s k).toNat : Int) = 34) :
    ACalls Tryd.prog 41 [.ptr id v0 0] h fun x h' => x = .pan (erA 1) ∧ ∃ m : Nat, h' = h.set id (.mk v0 ty 3 [sv s, iv (m : Int), O]) := by
  refine (lnquoted_any h1 hO hk hz hq).mono ?_
  rintro x h' (⟨z, e, h2, h3⟩ | ⟨e, h2⟩)
  · rw [e] at hf; cases hf
  · exact h2
theorem lnfield_any {s : ByteArray} {k : Nat} {O : AV} {id v0 ty : Nat} {h : AH} (h1 : h[id]? = some (.mk v0 ty 3 [sv s, iv (k : Int), O])) (hO : O.lt h.length = true) (hk : k < s.size) (hz : s.size ≤ 8000) :
    ACalls Tryd.prog 30 [.ptr id v0 0] h (fdR s k v0 ty id O h) := by
  have hid : id < h.length := (List.getElem?_eq_some_iff.1 h1).1
  refine j30 ?_
  intro N hn hlt hlA hbd
  try simp only [AV.bdL, AV.bd, and_true, true_and] at hbd
  rw [hn] at hO
  refine aw_heap (h1 := h.set id (.mk v0 ty 3 [sv s, iv (k : Int), O]) ++ []) (by rw [hx_self h1]) ?_
  refine w_seq ?_
  refine w_reg ?_
  refine s_val rfl (v_mv lks) pt2 ?_
  refine s_nil ?_
  refine n_seq ?_
  refine w_seq ?_
  refine w_seq ?_
  refine w_drwE ?_
  refine d_val rfl (v_mv lk0) pt4 ?_
  refine d_val rfl (v_nckp lk4) pt5 ?_
  refine d_val rfl (v_fap0 lk5) pt6 ?_
  refine d_val rfl (v_loadp lk6 (hx_at hid) gt0) pt7 ?_
  refine d_val rfl (v_mv lk0) pt8 ?_
  refine d_val rfl (v_nckp lk8) pt9 ?_
  refine d_val rfl (v_fap0 lk9) pt10 ?_
  refine d_val rfl (v_loadp lk10 (hx_at hid) gt1) pt11 ?_
  refine d_val rfl (v_ix lk7 lk11 (by omega) (by omega)) pt12 ?_
  refine d_val rfl (v_eql lk12 lki) pt13 ?_
  refine d_nil ?_
  refine e_nil ?_
  refine s_nil ?_
  refine n_seq ?_
  first | refine w_cond lk13 (fun hc1 => ?_) (fun hc1 => ?_) | refine w_condB lk13 (fun hc1 => ?_) (fun hc1 => ?_)
  · skip
    refine w_seq ?_
    refine w_reg ?_
    refine s_val rfl (v_mv lk0) pt14 ?_
    by_cases hs13 : ∃ y, fieldL ((aB s).drop k) = some y
    · skip
      obtain ⟨y, hy⟩ := hs13
      refine s_calls (mp1 lk14 mp0) (lnquoted_a hy (hx_at hid) (by simp [(hx_len hn)]; exact hO) hk hz hc1) (hx_set hid) pt15 ?_
      refine s_val rfl (v_mv lk15) pt2 ?_
      refine s_nil ?_
      refine n_seq ?_
      refine w_rets ?_
      refine r_thn ?_
      refine w_ret (rs1 (rr_t gt2)) ?_
      exact ⟨_, _, rfl, hx_len hn, hx_lt hlt (by simp [Ent.lt, AV.lt, AV.ltL, *]), rfl, .inl ⟨_, hy, rfl, rfl⟩⟩
    · skip
      have hy := no_some hs13
      refine s_callPanX (mp1 lk14 mp0) (lnquoted_p hy (hx_at hid) (by simp [(hx_len hn)]; exact hO) hk hz hc1) (fun hP_ hPp_ => ?_)
      refine p_thn ?_
      refine p_thn ?_
      refine w_pan ?_
      obtain ⟨m, rfl⟩ := hPp_
      rw [hx_set hid]; exact ⟨_, _, rfl, hx_len hn, hx_lt hlt (by simp [Ent.lt, AV.lt, AV.ltL, *]), rfl, .inr ⟨hy, rfl, _, rfl⟩⟩
  · skip
    have hF := fieldL_f hk hc1
    refine w_skip ?_
    refine n_seq ?_
    refine w_seq ?_
    refine w_reg ?_
    refine s_val rfl (v_mv lk0) pt16 ?_
    by_cases hs16 : ∃ n, runL fldP ((aB s).drop k) = some n
    · skip
      obtain ⟨n, hr⟩ := hs16
      have hle := runL_le hr
      have hL : ((aB s).drop k).length = s.size - k := by rw [List.length_drop, aB_len]
      rw [hr] at hF
      simp only at hF
      refine s_calls (mp1 lk16 (mp1 lkf mp0)) (lnrun_a (fun _ _ => lnfld_a) hr (hx_at hid) (by simp [(hx_len hn)]; exact hO) (Nat.le_of_lt hk) hz) (hx_set hid) pt17 ?_
      refine s_val rfl (v_mv lk17) pt3 ?_
      refine s_nil ?_
      refine n_seq ?_
      refine w_seq ?_
      refine w_seq ?_
      refine w_drwE ?_
      refine d_val rfl (v_mv lk0) pt18 ?_
      refine d_callp (mp1 lk18 mp0) (fun hE hX => lnmore_a (hX _ _ (hx_at hid)) (by omega)) pt19 ?_
      refine d_val rfl (v_mv lk19) pt20 ?_
      refine d_splitB gt20 pt20 pt20 (fun hg20 => ?_) (fun hg20 => ?_)
      · skip
        have hm := hg20; rw [moreL_at] at hm; simp only [Bool.and_eq_true, decide_eq_true_eq] at hm
        have hh := headN_at hm.1
        refine d_do gt20 ?_
        refine d_val rfl (v_mv lk0) pt21 ?_
        refine d_do gt20 ?_
        refine d_val rfl (v_nckp lk21) pt22 ?_
        refine d_do gt20 ?_
        refine d_val rfl (v_fap0 lk22) pt23 ?_
        refine d_do gt20 ?_
        refine d_val rfl (v_loadp lk23 (hx_at hid) gt0) pt24 ?_
        refine d_do gt20 ?_
        refine d_val rfl (v_mv lk0) pt25 ?_
        refine d_do gt20 ?_
        refine d_val rfl (v_nckp lk25) pt26 ?_
        refine d_do gt20 ?_
        refine d_val rfl (v_fap0 lk26) pt27 ?_
        refine d_do gt20 ?_
        refine d_val rfl (v_loadp lk27 (hx_at hid) gt1) pt28 ?_
        refine d_do gt20 ?_
        refine d_val rfl (v_ix lk24 lk28 (by omega) (by omega)) pt29 ?_
        refine d_do gt20 ?_
        refine d_val rfl (v_eql lk29 lki) pt30 ?_
        refine d_val rfl (v_pickT lk20 lk30) pt31 ?_
        refine d_nil ?_
        refine e_nil ?_
        refine s_nil ?_
        refine n_seq ?_
        first | refine w_cond lk31 (fun hc2 => ?_) (fun hc2 => ?_) | refine w_condB lk31 (fun hc2 => ?_) (fun hc2 => ?_)
        · skip
          rw [if_pos ⟨hg20, by rw [hh]; exact hc2⟩] at hF
          refine w_reg ?_
          refine s_callPan' (mp1 lki mp0) (lnfail_a) ?_
          refine p_thn ?_
          refine w_pan ?_
          exact ⟨_, _, rfl, hx_len hn, hx_lt hlt (by simp [Ent.lt, AV.lt, AV.ltL, *]), rfl, .inr ⟨hF, rfl, _, rfl⟩⟩
        · skip
          rw [if_neg (fun e => by rw [hh] at e; exact hc2 e.2)] at hF
          refine w_skip ?_
          refine n_seq ?_
          refine w_seq ?_
          refine w_reg ?_
          refine s_val rfl (v_mv lk3) pt33 ?_
          refine s_val rfl (v_mv lk33) pt2 ?_
          refine s_nil ?_
          refine n_seq ?_
          refine w_rets ?_
          refine w_ret (rs1 (rr_t gt2)) ?_
          exact ⟨_, _, rfl, hx_len hn, hx_lt hlt (by simp [Ent.lt, AV.lt, AV.ltL, *]), rfl, .inl ⟨_, hF, by simp [cutF], rfl⟩⟩
      · skip
        rw [if_neg (by rw [hg20]; simp)] at hF
        refine d_no gt20 pt21 ?_
        refine d_no gt20 pt22 ?_
        refine d_no gt20 pt23 ?_
        refine d_no gt20 pt24 ?_
        refine d_no gt20 pt25 ?_
        refine d_no gt20 pt26 ?_
        refine d_no gt20 pt27 ?_
        refine d_no gt20 pt28 ?_
        refine d_no gt20 pt29 ?_
        refine d_no gt20 pt30 ?_
        refine d_val rfl (v_pickF lk20 lkb) pt31 ?_
        refine d_nil ?_
        refine e_nil ?_
        refine s_nil ?_
        refine n_seq ?_
        refine w_condF lk31 ?_
        refine w_skip ?_
        refine n_seq ?_
        refine w_seq ?_
        refine w_reg ?_
        refine s_val rfl (v_mv lk3) pt33 ?_
        refine s_val rfl (v_mv lk33) pt2 ?_
        refine s_nil ?_
        refine n_seq ?_
        refine w_rets ?_
        refine w_ret (rs1 (rr_t gt2)) ?_
        exact ⟨_, _, rfl, hx_len hn, hx_lt hlt (by simp [Ent.lt, AV.lt, AV.ltL, *]), rfl, .inl ⟨_, hF, by simp [cutF], rfl⟩⟩
    · skip
      have hr := no_some hs16
      rw [hr] at hF
      refine s_callPan (mp1 lk16 (mp1 lkf mp0)) (lnrun_p (fun _ _ => lnfld_a) hr (hx_at hid) (by simp [(hx_len hn)]; exact hO) (Nat.le_of_lt hk) hz) ?_
      refine p_thn ?_
      refine w_pan ?_
      rw [hx_set hid]; exact ⟨_, _, rfl, hx_len hn, hx_lt hlt (by simp [Ent.lt, AV.lt, AV.ltL, *]), rfl, .inr ⟨hF, rfl, _, rfl⟩⟩
theorem lnfield_a {s : ByteArray} {k : Nat} {O : AV} {y : Nat × Nat × Nat} {id v0 ty : Nat} {h : AH} (hf : fieldL ((aB s).drop k) = some y) (h1 : h[id]? = some (.mk v0 ty 3 [sv s, iv (k : Int), O])) (hO : O.lt h.length = true) (hk : k < s.size) (hz : s.size ≤ 8000) :
    ACalls Tryd.prog 30 [.ptr id v0 0] h fun x h' => x = .ret (sv (cutF ((aB s).drop k) y)) ∧ h' = h.set id (.mk v0 ty 3 [sv s, iv ((k + y.2.2 : Nat) : Int), O]) := by
  refine (lnfield_any h1 hO hk hz).mono ?_
  rintro x h' (⟨z, e, h2, h3⟩ | ⟨e, _⟩) <;> rw [e] at hf <;> cases hf
  exact ⟨h2, h3⟩
theorem lnfield_p {s : ByteArray} {k : Nat} {O : AV} {id v0 ty : Nat} {h : AH} (hf : fieldL ((aB s).drop k) = none) (h1 : h[id]? = some (.mk v0 ty 3 [sv s, iv (k : Int), O])) (hO : O.lt h.length = true) (hk : k < s.size) (hz : s.size ≤ 8000) :
    ACalls Tryd.prog 30 [.ptr id v0 0] h fun x h' => x = .pan (erA 1) ∧ ∃ m : Nat, h' = h.set id (.mk v0 ty 3 [sv s, iv (m : Int), O]) := by
  refine (lnfield_any h1 hO hk hz).mono ?_
  rintro x h' (⟨z, e, h2, h3⟩ | ⟨e, h2⟩)
  · rw [e] at hf; cases hf
  · exact h2
end Go.Proofs.YtgjchdhdopgkkaaDoor
