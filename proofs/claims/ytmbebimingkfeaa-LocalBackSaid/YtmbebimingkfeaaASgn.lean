/-
  Contracts on plain data: the signs of a text, what lies within bounds, first and last days. Conditions: those that each theorem names.
-/
import Derived.Test.YtmbebimingkfeaaAbsE
import Derived.Test.YtmbebimingkfeaaAPlain
set_option linter.unusedVariables false
set_option linter.unusedSimpArgs false
set_option maxRecDepth 100000
namespace Go.Proofs.Ytmbebimingkfeaa
open Go.Ab Civ
/-- source.letter -/
def c98 : AC := (.seq (.reg [⟨(some 2), none, (.mv (.const (.bool false)))⟩]) (.seq (.reg [⟨(some 3), none, (.mv (.tmp 0))⟩, ⟨(some 4), none, (.bin .geq (.tmp 3) (.const (.int .u8 97)))⟩, ⟨(some 5), none, (.mv (.tmp 4))⟩, ⟨(some 6), (some (5, true)), (.mv (.tmp 0))⟩, ⟨(some 7), (some (5, true)), (.bin .leq (.tmp 6) (.const (.int .u8 122)))⟩, ⟨(some 8), none, (.pick (.tmp 5) (.tmp 7) (.const (.bool false)))⟩, ⟨(some 9), none, (.mv (.tmp 8))⟩, ⟨(some 10), (some (9, false)), (.mv (.tmp 0))⟩, ⟨(some 11), (some (9, false)), (.bin .geq (.tmp 10) (.const (.int .u8 65)))⟩, ⟨(some 12), (some (9, false)), (.mv (.tmp 11))⟩, ⟨(some 13), (some (12, true)), (.mv (.tmp 0))⟩, ⟨(some 14), (some (12, true)), (.bin .leq (.tmp 13) (.const (.int .u8 90)))⟩, ⟨(some 15), (some (9, false)), (.pick (.tmp 12) (.tmp 14) (.const (.bool false)))⟩, ⟨(some 16), none, (.pick (.tmp 9) (.const (.bool true)) (.tmp 15))⟩, ⟨(some 2), none, (.mv (.tmp 16))⟩]) .ret))
theorem k98 : compF Try.prog 98 = some ⟨c98, [(.tmp 2)], 17⟩ := by kernel_rfl
theorem i98 {a0 : AV} {h : AH} {R : AE → Prop} (hw : ∀ n, h.length = n → (∀ e ∈ h, e.lt n = true) → AV.ltL n [a0] = true → AV.bdL [a0] → aw Try.prog n c98 (retA [(.tmp 2)] fun x h' => ∃ z, h' = h ++ z ∧ x.lt n = true ∧ R x) [a0, .any, .any, .any, .any, .any, .any, .any, .any, .any, .any, .any, .any, .any, .any, .any, .any] (h ++ [])) : ACalls Try.prog 98 [a0] h fun x h' => h' = h ∧ R x := ACalls.into k98 rfl hw
theorem w98 {a0 : AV} {h : AH} {res : AV} (hw : ∀ n, h.length = n → (∀ e ∈ h, e.lt n = true) → AV.ltL n [a0] = true → AV.bdL [a0] → aw Try.prog n c98 (retA [(.tmp 2)] fun x h' => ∃ z, h' = h ++ z ∧ x.lt n = true ∧ ∃ c, x = .ret c ∧ Wk c res) [a0, .any, .any, .any, .any, .any, .any, .any, .any, .any, .any, .any, .any, .any, .any, .any, .any] (h ++ [])) : ACalls Try.prog 98 [a0] h fun x h' => h' = h ∧ x = .ret res := ACalls.weak (ACalls.into k98 rfl hw)
theorem n98 {a0 : AV} {h : AH} {R : AE → AH → Prop} (hw : ∀ n, h.length = n → (∀ e ∈ h, e.lt n = true) → AV.ltL n [a0] = true → AV.bdL [a0] → aw Try.prog n c98 (retA [(.tmp 2)] R) [a0, .any, .any, .any, .any, .any, .any, .any, .any, .any, .any, .any, .any, .any, .any, .any, .any] (h ++ [])) : ACalls Try.prog 98 [a0] h R := ACalls.intoN k98 rfl hw
theorem j98 {a0 : AV} {h : AH} {R : AE → AH → Prop} (hw : ∀ n, h.length = n → (∀ e ∈ h, e.lt n = true) → AV.ltL n [a0] = true → AV.bdL [a0] → aw Try.prog n c98 (retA [(.tmp 2)] fun x h' => ∃ y z, h' = y ++ z ∧ y.length = n ∧ (∀ e ∈ y, e.lt n = true) ∧ x.lt n = true ∧ R x y) [a0, .any, .any, .any, .any, .any, .any, .any, .any, .any, .any, .any, .any, .any, .any, .any, .any] (h ++ [])) : ACalls Try.prog 98 [a0] h R := ACalls.intoG k98 rfl hw
/-- source.digit -/
def c99 : AC := (.seq (.reg [⟨(some 2), none, (.mv (.const (.bool false)))⟩]) (.seq (.reg [⟨(some 3), none, (.mv (.tmp 0))⟩, ⟨(some 4), none, (.bin .geq (.tmp 3) (.const (.int .u8 48)))⟩, ⟨(some 5), none, (.mv (.tmp 4))⟩, ⟨(some 6), (some (5, true)), (.mv (.tmp 0))⟩, ⟨(some 7), (some (5, true)), (.bin .leq (.tmp 6) (.const (.int .u8 57)))⟩, ⟨(some 8), none, (.pick (.tmp 5) (.tmp 7) (.const (.bool false)))⟩, ⟨(some 2), none, (.mv (.tmp 8))⟩]) .ret))
theorem k99 : compF Try.prog 99 = some ⟨c99, [(.tmp 2)], 9⟩ := by kernel_rfl
theorem i99 {a0 : AV} {h : AH} {R : AE → Prop} (hw : ∀ n, h.length = n → (∀ e ∈ h, e.lt n = true) → AV.ltL n [a0] = true → AV.bdL [a0] → aw Try.prog n c99 (retA [(.tmp 2)] fun x h' => ∃ z, h' = h ++ z ∧ x.lt n = true ∧ R x) [a0, .any, .any, .any, .any, .any, .any, .any, .any] (h ++ [])) : ACalls Try.prog 99 [a0] h fun x h' => h' = h ∧ R x := ACalls.into k99 rfl hw
theorem w99 {a0 : AV} {h : AH} {res : AV} (hw : ∀ n, h.length = n → (∀ e ∈ h, e.lt n = true) → AV.ltL n [a0] = true → AV.bdL [a0] → aw Try.prog n c99 (retA [(.tmp 2)] fun x h' => ∃ z, h' = h ++ z ∧ x.lt n = true ∧ ∃ c, x = .ret c ∧ Wk c res) [a0, .any, .any, .any, .any, .any, .any, .any, .any] (h ++ [])) : ACalls Try.prog 99 [a0] h fun x h' => h' = h ∧ x = .ret res := ACalls.weak (ACalls.into k99 rfl hw)
theorem n99 {a0 : AV} {h : AH} {R : AE → AH → Prop} (hw : ∀ n, h.length = n → (∀ e ∈ h, e.lt n = true) → AV.ltL n [a0] = true → AV.bdL [a0] → aw Try.prog n c99 (retA [(.tmp 2)] R) [a0, .any, .any, .any, .any, .any, .any, .any, .any] (h ++ [])) : ACalls Try.prog 99 [a0] h R := ACalls.intoN k99 rfl hw
theorem j99 {a0 : AV} {h : AH} {R : AE → AH → Prop} (hw : ∀ n, h.length = n → (∀ e ∈ h, e.lt n = true) → AV.ltL n [a0] = true → AV.bdL [a0] → aw Try.prog n c99 (retA [(.tmp 2)] fun x h' => ∃ y z, h' = y ++ z ∧ y.length = n ∧ (∀ e ∈ y, e.lt n = true) ∧ x.lt n = true ∧ R x y) [a0, .any, .any, .any, .any, .any, .any, .any, .any] (h ++ [])) : ACalls Try.prog 99 [a0] h R := ACalls.intoG k99 rfl hw
/-- source.Plain$1 -/
def c97 : AC := (.seq (.reg [⟨(some 2), none, (.mv (.const (.bool false)))⟩]) (.seq (.reg [⟨(some 3), none, (.mv (.tmp 0))⟩, ⟨(some 4), none, (.call (.func 98) [(.tmp 3)])⟩, ⟨(some 5), none, (.mv (.tmp 4))⟩, ⟨(some 6), (some (5, false)), (.mv (.tmp 0))⟩, ⟨(some 7), (some (5, false)), (.call (.func 99) [(.tmp 6)])⟩, ⟨(some 8), none, (.pick (.tmp 5) (.const (.bool true)) (.tmp 7))⟩, ⟨(some 9), none, (.mv (.tmp 8))⟩, ⟨(some 10), (some (9, false)), (.mv (.tmp 0))⟩, ⟨(some 11), (some (9, false)), (.bin .eql (.tmp 10) (.const (.int .u8 43)))⟩, ⟨(some 12), none, (.pick (.tmp 9) (.const (.bool true)) (.tmp 11))⟩, ⟨(some 13), none, (.mv (.tmp 12))⟩, ⟨(some 14), (some (13, false)), (.mv (.tmp 0))⟩, ⟨(some 15), (some (13, false)), (.bin .eql (.tmp 14) (.const (.int .u8 45)))⟩, ⟨(some 16), none, (.pick (.tmp 13) (.const (.bool true)) (.tmp 15))⟩, ⟨(some 2), none, (.mv (.tmp 16))⟩]) .ret))
theorem k97 : compF Try.prog 97 = some ⟨c97, [(.tmp 2)], 17⟩ := by kernel_rfl
theorem i97 {a0 : AV} {h : AH} {R : AE → Prop} (hw : ∀ n, h.length = n → (∀ e ∈ h, e.lt n = true) → AV.ltL n [a0] = true → AV.bdL [a0] → aw Try.prog n c97 (retA [(.tmp 2)] fun x h' => ∃ z, h' = h ++ z ∧ x.lt n = true ∧ R x) [a0, .any, .any, .any, .any, .any, .any, .any, .any, .any, .any, .any, .any, .any, .any, .any, .any] (h ++ [])) : ACalls Try.prog 97 [a0] h fun x h' => h' = h ∧ R x := ACalls.into k97 rfl hw
theorem w97 {a0 : AV} {h : AH} {res : AV} (hw : ∀ n, h.length = n → (∀ e ∈ h, e.lt n = true) → AV.ltL n [a0] = true → AV.bdL [a0] → aw Try.prog n c97 (retA [(.tmp 2)] fun x h' => ∃ z, h' = h ++ z ∧ x.lt n = true ∧ ∃ c, x = .ret c ∧ Wk c res) [a0, .any, .any, .any, .any, .any, .any, .any, .any, .any, .any, .any, .any, .any, .any, .any, .any] (h ++ [])) : ACalls Try.prog 97 [a0] h fun x h' => h' = h ∧ x = .ret res := ACalls.weak (ACalls.into k97 rfl hw)
theorem n97 {a0 : AV} {h : AH} {R : AE → AH → Prop} (hw : ∀ n, h.length = n → (∀ e ∈ h, e.lt n = true) → AV.ltL n [a0] = true → AV.bdL [a0] → aw Try.prog n c97 (retA [(.tmp 2)] R) [a0, .any, .any, .any, .any, .any, .any, .any, .any, .any, .any, .any, .any, .any, .any, .any, .any] (h ++ [])) : ACalls Try.prog 97 [a0] h R := ACalls.intoN k97 rfl hw
theorem j97 {a0 : AV} {h : AH} {R : AE → AH → Prop} (hw : ∀ n, h.length = n → (∀ e ∈ h, e.lt n = true) → AV.ltL n [a0] = true → AV.bdL [a0] → aw Try.prog n c97 (retA [(.tmp 2)] fun x h' => ∃ y z, h' = y ++ z ∧ y.length = n ∧ (∀ e ∈ y, e.lt n = true) ∧ x.lt n = true ∧ R x y) [a0, .any, .any, .any, .any, .any, .any, .any, .any, .any, .any, .any, .any, .any, .any, .any, .any] (h ++ [])) : ACalls Try.prog 97 [a0] h R := ACalls.intoG k97 rfl hw
/-- source.all -/
def c96 : AC := (.seq (.reg [⟨(some 4), none, (.mv (.const (.bool false)))⟩]) (.seq (.seq (.reg [⟨(some 6), none, (.mv (.tmp 0))⟩, ⟨(some 7), none, (.len true (.tmp 6))⟩, ⟨(some 8), none, (.mv (.const (.int .i64 0)))⟩]) (.block 0 (.loop (.seq (.reg [⟨(some 9), none, (.bin .lss (.tmp 8) (.tmp 7))⟩]) (.seq (.cond (.tmp 9) .skip (.exit 0)) (.seq (.block 1 (.seq (.reg [⟨(some 10), none, (.mv (.tmp 8))⟩, ⟨(some 5), none, (.mv (.tmp 10))⟩]) (.seq (.reg [⟨(some 11), none, (.mv (.tmp 1))⟩, ⟨(some 12), none, (.mv (.tmp 0))⟩, ⟨(some 13), none, (.mv (.tmp 5))⟩, ⟨(some 14), none, (.ix (.tmp 12) (.tmp 13))⟩, ⟨(some 15), none, (.call (.tmp 11) [(.tmp 14)])⟩, ⟨(some 16), none, (.un .not (.tmp 15))⟩]) (.cond (.tmp 16) (.seq (.reg [⟨(some 4), none, (.mv (.const (.bool false)))⟩]) .ret) .skip)))) (.reg [⟨(some 17), none, (.bin .add (.tmp 8) (.const (.int .i64 1)))⟩, ⟨(some 8), none, (.mv (.tmp 17))⟩]))))))) (.seq (.reg [⟨(some 4), none, (.mv (.const (.bool true)))⟩]) .ret)))
theorem k96 : compF Try.prog 96 = some ⟨c96, [(.tmp 4)], 18⟩ := by kernel_rfl
theorem i96 {a0 a1 : AV} {h : AH} {R : AE → Prop} (hw : ∀ n, h.length = n → (∀ e ∈ h, e.lt n = true) → AV.ltL n [a0, a1] = true → AV.bdL [a0, a1] → aw Try.prog n c96 (retA [(.tmp 4)] fun x h' => ∃ z, h' = h ++ z ∧ x.lt n = true ∧ R x) [a0, a1, .any, .any, .any, .any, .any, .any, .any, .any, .any, .any, .any, .any, .any, .any, .any, .any] (h ++ [])) : ACalls Try.prog 96 [a0, a1] h fun x h' => h' = h ∧ R x := ACalls.into k96 rfl hw
theorem w96 {a0 a1 : AV} {h : AH} {res : AV} (hw : ∀ n, h.length = n → (∀ e ∈ h, e.lt n = true) → AV.ltL n [a0, a1] = true → AV.bdL [a0, a1] → aw Try.prog n c96 (retA [(.tmp 4)] fun x h' => ∃ z, h' = h ++ z ∧ x.lt n = true ∧ ∃ c, x = .ret c ∧ Wk c res) [a0, a1, .any, .any, .any, .any, .any, .any, .any, .any, .any, .any, .any, .any, .any, .any, .any, .any] (h ++ [])) : ACalls Try.prog 96 [a0, a1] h fun x h' => h' = h ∧ x = .ret res := ACalls.weak (ACalls.into k96 rfl hw)
theorem n96 {a0 a1 : AV} {h : AH} {R : AE → AH → Prop} (hw : ∀ n, h.length = n → (∀ e ∈ h, e.lt n = true) → AV.ltL n [a0, a1] = true → AV.bdL [a0, a1] → aw Try.prog n c96 (retA [(.tmp 4)] R) [a0, a1, .any, .any, .any, .any, .any, .any, .any, .any, .any, .any, .any, .any, .any, .any, .any, .any] (h ++ [])) : ACalls Try.prog 96 [a0, a1] h R := ACalls.intoN k96 rfl hw
theorem j96 {a0 a1 : AV} {h : AH} {R : AE → AH → Prop} (hw : ∀ n, h.length = n → (∀ e ∈ h, e.lt n = true) → AV.ltL n [a0, a1] = true → AV.bdL [a0, a1] → aw Try.prog n c96 (retA [(.tmp 4)] fun x h' => ∃ y z, h' = y ++ z ∧ y.length = n ∧ (∀ e ∈ y, e.lt n = true) ∧ x.lt n = true ∧ R x y) [a0, a1, .any, .any, .any, .any, .any, .any, .any, .any, .any, .any, .any, .any, .any, .any, .any, .any] (h ++ [])) : ACalls Try.prog 96 [a0, a1] h R := ACalls.intoG k96 rfl hw
/-- source.Plain -/
def c77 : AC := (.seq (.reg [⟨(some 2), none, (.mv (.const (.bool false)))⟩]) (.seq (.reg [⟨(some 3), none, (.mv (.tmp 0))⟩, ⟨(some 4), none, (.call (.func 96) [(.tmp 3), (.func 97)])⟩, ⟨(some 2), none, (.mv (.tmp 4))⟩]) .ret))
theorem k77 : compF Try.prog 77 = some ⟨c77, [(.tmp 2)], 5⟩ := by kernel_rfl
theorem i77 {a0 : AV} {h : AH} {R : AE → Prop} (hw : ∀ n, h.length = n → (∀ e ∈ h, e.lt n = true) → AV.ltL n [a0] = true → AV.bdL [a0] → aw Try.prog n c77 (retA [(.tmp 2)] fun x h' => ∃ z, h' = h ++ z ∧ x.lt n = true ∧ R x) [a0, .any, .any, .any, .any] (h ++ [])) : ACalls Try.prog 77 [a0] h fun x h' => h' = h ∧ R x := ACalls.into k77 rfl hw
theorem w77 {a0 : AV} {h : AH} {res : AV} (hw : ∀ n, h.length = n → (∀ e ∈ h, e.lt n = true) → AV.ltL n [a0] = true → AV.bdL [a0] → aw Try.prog n c77 (retA [(.tmp 2)] fun x h' => ∃ z, h' = h ++ z ∧ x.lt n = true ∧ ∃ c, x = .ret c ∧ Wk c res) [a0, .any, .any, .any, .any] (h ++ [])) : ACalls Try.prog 77 [a0] h fun x h' => h' = h ∧ x = .ret res := ACalls.weak (ACalls.into k77 rfl hw)
theorem n77 {a0 : AV} {h : AH} {R : AE → AH → Prop} (hw : ∀ n, h.length = n → (∀ e ∈ h, e.lt n = true) → AV.ltL n [a0] = true → AV.bdL [a0] → aw Try.prog n c77 (retA [(.tmp 2)] R) [a0, .any, .any, .any, .any] (h ++ [])) : ACalls Try.prog 77 [a0] h R := ACalls.intoN k77 rfl hw
theorem j77 {a0 : AV} {h : AH} {R : AE → AH → Prop} (hw : ∀ n, h.length = n → (∀ e ∈ h, e.lt n = true) → AV.ltL n [a0] = true → AV.bdL [a0] → aw Try.prog n c77 (retA [(.tmp 2)] fun x h' => ∃ y z, h' = y ++ z ∧ y.length = n ∧ (∀ e ∈ y, e.lt n = true) ∧ x.lt n = true ∧ R x y) [a0, .any, .any, .any, .any] (h ++ [])) : ACalls Try.prog 77 [a0] h R := ACalls.intoG k77 rfl hw
/-- table.within -/
def c76 : AC := (.seq (.reg [⟨(some 6), none, (.mv (.const (.bool false)))⟩]) (.seq (.reg [⟨(some 7), none, (.mv (.tmp 0))⟩, ⟨(some 8), none, (.mv (.tmp 1))⟩, ⟨(some 9), none, (.bin .geq (.tmp 7) (.tmp 8))⟩, ⟨(some 10), none, (.mv (.tmp 9))⟩, ⟨(some 11), (some (10, true)), (.mv (.tmp 0))⟩, ⟨(some 12), (some (10, true)), (.mv (.tmp 2))⟩, ⟨(some 13), (some (10, true)), (.bin .leq (.tmp 11) (.tmp 12))⟩, ⟨(some 14), none, (.pick (.tmp 10) (.tmp 13) (.const (.bool false)))⟩, ⟨(some 6), none, (.mv (.tmp 14))⟩]) .ret))
theorem k76 : compF Try.prog 76 = some ⟨c76, [(.tmp 6)], 15⟩ := by kernel_rfl
theorem i76 {a0 a1 a2 : AV} {h : AH} {R : AE → Prop} (hw : ∀ n, h.length = n → (∀ e ∈ h, e.lt n = true) → AV.ltL n [a0, a1, a2] = true → AV.bdL [a0, a1, a2] → aw Try.prog n c76 (retA [(.tmp 6)] fun x h' => ∃ z, h' = h ++ z ∧ x.lt n = true ∧ R x) [a0, a1, a2, .any, .any, .any, .any, .any, .any, .any, .any, .any, .any, .any, .any] (h ++ [])) : ACalls Try.prog 76 [a0, a1, a2] h fun x h' => h' = h ∧ R x := ACalls.into k76 rfl hw
theorem w76 {a0 a1 a2 : AV} {h : AH} {res : AV} (hw : ∀ n, h.length = n → (∀ e ∈ h, e.lt n = true) → AV.ltL n [a0, a1, a2] = true → AV.bdL [a0, a1, a2] → aw Try.prog n c76 (retA [(.tmp 6)] fun x h' => ∃ z, h' = h ++ z ∧ x.lt n = true ∧ ∃ c, x = .ret c ∧ Wk c res) [a0, a1, a2, .any, .any, .any, .any, .any, .any, .any, .any, .any, .any, .any, .any] (h ++ [])) : ACalls Try.prog 76 [a0, a1, a2] h fun x h' => h' = h ∧ x = .ret res := ACalls.weak (ACalls.into k76 rfl hw)
theorem n76 {a0 a1 a2 : AV} {h : AH} {R : AE → AH → Prop} (hw : ∀ n, h.length = n → (∀ e ∈ h, e.lt n = true) → AV.ltL n [a0, a1, a2] = true → AV.bdL [a0, a1, a2] → aw Try.prog n c76 (retA [(.tmp 6)] R) [a0, a1, a2, .any, .any, .any, .any, .any, .any, .any, .any, .any, .any, .any, .any] (h ++ [])) : ACalls Try.prog 76 [a0, a1, a2] h R := ACalls.intoN k76 rfl hw
theorem j76 {a0 a1 a2 : AV} {h : AH} {R : AE → AH → Prop} (hw : ∀ n, h.length = n → (∀ e ∈ h, e.lt n = true) → AV.ltL n [a0, a1, a2] = true → AV.bdL [a0, a1, a2] → aw Try.prog n c76 (retA [(.tmp 6)] fun x h' => ∃ y z, h' = y ++ z ∧ y.length = n ∧ (∀ e ∈ y, e.lt n = true) ∧ x.lt n = true ∧ R x y) [a0, a1, a2, .any, .any, .any, .any, .any, .any, .any, .any, .any, .any, .any, .any] (h ++ [])) : ACalls Try.prog 76 [a0, a1, a2] h R := ACalls.intoG k76 rfl hw
/-- civil.before -/
def c92 : AC := (.seq (.reg [⟨(some 2), none, (.mv (.const (.int .i64 0)))⟩]) (.seq (.reg [⟨(some 3), none, (.mv (.tmp 0))⟩, ⟨(some 4), none, (.bin .sub (.tmp 3) (.const (.int .i64 1)))⟩, ⟨(some 0), none, (.mv (.tmp 4))⟩]) (.seq (.reg [⟨(some 5), none, (.mv (.tmp 0))⟩, ⟨(some 6), none, (.bin .mul (.const (.int .i64 365)) (.tmp 5))⟩, ⟨(some 7), none, (.mv (.tmp 0))⟩, ⟨(some 8), none, (.bin .quo (.tmp 7) (.const (.int .i64 4)))⟩, ⟨(some 9), none, (.bin .add (.tmp 6) (.tmp 8))⟩, ⟨(some 10), none, (.mv (.tmp 0))⟩, ⟨(some 11), none, (.bin .quo (.tmp 10) (.const (.int .i64 100)))⟩, ⟨(some 12), none, (.bin .sub (.tmp 9) (.tmp 11))⟩, ⟨(some 13), none, (.mv (.tmp 0))⟩, ⟨(some 14), none, (.bin .quo (.tmp 13) (.const (.int .i64 400)))⟩, ⟨(some 15), none, (.bin .add (.tmp 12) (.tmp 14))⟩, ⟨(some 2), none, (.mv (.tmp 15))⟩]) .ret)))
theorem k92 : compF Try.prog 92 = some ⟨c92, [(.tmp 2)], 16⟩ := by kernel_rfl
theorem i92 {a0 : AV} {h : AH} {R : AE → Prop} (hw : ∀ n, h.length = n → (∀ e ∈ h, e.lt n = true) → AV.ltL n [a0] = true → AV.bdL [a0] → aw Try.prog n c92 (retA [(.tmp 2)] fun x h' => ∃ z, h' = h ++ z ∧ x.lt n = true ∧ R x) [a0, .any, .any, .any, .any, .any, .any, .any, .any, .any, .any, .any, .any, .any, .any, .any] (h ++ [])) : ACalls Try.prog 92 [a0] h fun x h' => h' = h ∧ R x := ACalls.into k92 rfl hw
theorem w92 {a0 : AV} {h : AH} {res : AV} (hw : ∀ n, h.length = n → (∀ e ∈ h, e.lt n = true) → AV.ltL n [a0] = true → AV.bdL [a0] → aw Try.prog n c92 (retA [(.tmp 2)] fun x h' => ∃ z, h' = h ++ z ∧ x.lt n = true ∧ ∃ c, x = .ret c ∧ Wk c res) [a0, .any, .any, .any, .any, .any, .any, .any, .any, .any, .any, .any, .any, .any, .any, .any] (h ++ [])) : ACalls Try.prog 92 [a0] h fun x h' => h' = h ∧ x = .ret res := ACalls.weak (ACalls.into k92 rfl hw)
theorem n92 {a0 : AV} {h : AH} {R : AE → AH → Prop} (hw : ∀ n, h.length = n → (∀ e ∈ h, e.lt n = true) → AV.ltL n [a0] = true → AV.bdL [a0] → aw Try.prog n c92 (retA [(.tmp 2)] R) [a0, .any, .any, .any, .any, .any, .any, .any, .any, .any, .any, .any, .any, .any, .any, .any] (h ++ [])) : ACalls Try.prog 92 [a0] h R := ACalls.intoN k92 rfl hw
theorem j92 {a0 : AV} {h : AH} {R : AE → AH → Prop} (hw : ∀ n, h.length = n → (∀ e ∈ h, e.lt n = true) → AV.ltL n [a0] = true → AV.bdL [a0] → aw Try.prog n c92 (retA [(.tmp 2)] fun x h' => ∃ y z, h' = y ++ z ∧ y.length = n ∧ (∀ e ∈ y, e.lt n = true) ∧ x.lt n = true ∧ R x y) [a0, .any, .any, .any, .any, .any, .any, .any, .any, .any, .any, .any, .any, .any, .any, .any] (h ++ [])) : ACalls Try.prog 92 [a0] h R := ACalls.intoG k92 rfl hw
/-- civil.epoch -/
def c93 : AC := (.seq (.reg [⟨(some 0), none, (.mv (.const (.int .i64 0)))⟩]) (.seq (.reg [⟨(some 1), none, (.call (.func 92) [(.const (.int .i64 1970))])⟩, ⟨(some 0), none, (.mv (.tmp 1))⟩]) .ret))
theorem k93 : compF Try.prog 93 = some ⟨c93, [(.tmp 0)], 2⟩ := by kernel_rfl
theorem i93 {h : AH} {R : AE → Prop} (hw : ∀ n, h.length = n → (∀ e ∈ h, e.lt n = true) → AV.ltL n [] = true → AV.bdL [] → aw Try.prog n c93 (retA [(.tmp 0)] fun x h' => ∃ z, h' = h ++ z ∧ x.lt n = true ∧ R x) [.any, .any] (h ++ [])) : ACalls Try.prog 93 [] h fun x h' => h' = h ∧ R x := ACalls.into k93 rfl hw
theorem w93 {h : AH} {res : AV} (hw : ∀ n, h.length = n → (∀ e ∈ h, e.lt n = true) → AV.ltL n [] = true → AV.bdL [] → aw Try.prog n c93 (retA [(.tmp 0)] fun x h' => ∃ z, h' = h ++ z ∧ x.lt n = true ∧ ∃ c, x = .ret c ∧ Wk c res) [.any, .any] (h ++ [])) : ACalls Try.prog 93 [] h fun x h' => h' = h ∧ x = .ret res := ACalls.weak (ACalls.into k93 rfl hw)
theorem n93 {h : AH} {R : AE → AH → Prop} (hw : ∀ n, h.length = n → (∀ e ∈ h, e.lt n = true) → AV.ltL n [] = true → AV.bdL [] → aw Try.prog n c93 (retA [(.tmp 0)] R) [.any, .any] (h ++ [])) : ACalls Try.prog 93 [] h R := ACalls.intoN k93 rfl hw
theorem j93 {h : AH} {R : AE → AH → Prop} (hw : ∀ n, h.length = n → (∀ e ∈ h, e.lt n = true) → AV.ltL n [] = true → AV.bdL [] → aw Try.prog n c93 (retA [(.tmp 0)] fun x h' => ∃ y z, h' = y ++ z ∧ y.length = n ∧ (∀ e ∈ y, e.lt n = true) ∧ x.lt n = true ∧ R x y) [.any, .any] (h ++ [])) : ACalls Try.prog 93 [] h R := ACalls.intoG k93 rfl hw
/-- civil.First -/
def c78 : AC := (.seq (.reg [⟨(some 0), none, (.mv (.const (.int .i64 0)))⟩]) (.seq (.reg [⟨(some 1), none, (.call (.func 93) [])⟩, ⟨(some 2), none, (.un .neg (.tmp 1))⟩, ⟨(some 0), none, (.mv (.tmp 2))⟩]) .ret))
theorem k78 : compF Try.prog 78 = some ⟨c78, [(.tmp 0)], 3⟩ := by kernel_rfl
theorem i78 {h : AH} {R : AE → Prop} (hw : ∀ n, h.length = n → (∀ e ∈ h, e.lt n = true) → AV.ltL n [] = true → AV.bdL [] → aw Try.prog n c78 (retA [(.tmp 0)] fun x h' => ∃ z, h' = h ++ z ∧ x.lt n = true ∧ R x) [.any, .any, .any] (h ++ [])) : ACalls Try.prog 78 [] h fun x h' => h' = h ∧ R x := ACalls.into k78 rfl hw
theorem w78 {h : AH} {res : AV} (hw : ∀ n, h.length = n → (∀ e ∈ h, e.lt n = true) → AV.ltL n [] = true → AV.bdL [] → aw Try.prog n c78 (retA [(.tmp 0)] fun x h' => ∃ z, h' = h ++ z ∧ x.lt n = true ∧ ∃ c, x = .ret c ∧ Wk c res) [.any, .any, .any] (h ++ [])) : ACalls Try.prog 78 [] h fun x h' => h' = h ∧ x = .ret res := ACalls.weak (ACalls.into k78 rfl hw)
theorem n78 {h : AH} {R : AE → AH → Prop} (hw : ∀ n, h.length = n → (∀ e ∈ h, e.lt n = true) → AV.ltL n [] = true → AV.bdL [] → aw Try.prog n c78 (retA [(.tmp 0)] R) [.any, .any, .any] (h ++ [])) : ACalls Try.prog 78 [] h R := ACalls.intoN k78 rfl hw
theorem j78 {h : AH} {R : AE → AH → Prop} (hw : ∀ n, h.length = n → (∀ e ∈ h, e.lt n = true) → AV.ltL n [] = true → AV.bdL [] → aw Try.prog n c78 (retA [(.tmp 0)] fun x h' => ∃ y z, h' = y ++ z ∧ y.length = n ∧ (∀ e ∈ y, e.lt n = true) ∧ x.lt n = true ∧ R x y) [.any, .any, .any] (h ++ [])) : ACalls Try.prog 78 [] h R := ACalls.intoG k78 rfl hw
/-- civil.Last -/
def c89 : AC := (.seq (.reg [⟨(some 0), none, (.mv (.const (.int .i64 0)))⟩]) (.seq (.reg [⟨(some 1), none, (.call (.func 92) [(.const (.int .i64 10000))])⟩, ⟨(some 2), none, (.call (.func 93) [])⟩, ⟨(some 3), none, (.bin .sub (.tmp 1) (.tmp 2))⟩, ⟨(some 4), none, (.bin .sub (.tmp 3) (.const (.int .i64 1)))⟩, ⟨(some 0), none, (.mv (.tmp 4))⟩]) .ret))
theorem k89 : compF Try.prog 89 = some ⟨c89, [(.tmp 0)], 5⟩ := by kernel_rfl
theorem i89 {h : AH} {R : AE → Prop} (hw : ∀ n, h.length = n → (∀ e ∈ h, e.lt n = true) → AV.ltL n [] = true → AV.bdL [] → aw Try.prog n c89 (retA [(.tmp 0)] fun x h' => ∃ z, h' = h ++ z ∧ x.lt n = true ∧ R x) [.any, .any, .any, .any, .any] (h ++ [])) : ACalls Try.prog 89 [] h fun x h' => h' = h ∧ R x := ACalls.into k89 rfl hw
theorem w89 {h : AH} {res : AV} (hw : ∀ n, h.length = n → (∀ e ∈ h, e.lt n = true) → AV.ltL n [] = true → AV.bdL [] → aw Try.prog n c89 (retA [(.tmp 0)] fun x h' => ∃ z, h' = h ++ z ∧ x.lt n = true ∧ ∃ c, x = .ret c ∧ Wk c res) [.any, .any, .any, .any, .any] (h ++ [])) : ACalls Try.prog 89 [] h fun x h' => h' = h ∧ x = .ret res := ACalls.weak (ACalls.into k89 rfl hw)
theorem n89 {h : AH} {R : AE → AH → Prop} (hw : ∀ n, h.length = n → (∀ e ∈ h, e.lt n = true) → AV.ltL n [] = true → AV.bdL [] → aw Try.prog n c89 (retA [(.tmp 0)] R) [.any, .any, .any, .any, .any] (h ++ [])) : ACalls Try.prog 89 [] h R := ACalls.intoN k89 rfl hw
theorem j89 {h : AH} {R : AE → AH → Prop} (hw : ∀ n, h.length = n → (∀ e ∈ h, e.lt n = true) → AV.ltL n [] = true → AV.bdL [] → aw Try.prog n c89 (retA [(.tmp 0)] fun x h' => ∃ y z, h' = y ++ z ∧ y.length = n ∧ (∀ e ∈ y, e.lt n = true) ∧ x.lt n = true ∧ R x y) [.any, .any, .any, .any, .any] (h ++ [])) : ACalls Try.prog 89 [] h R := ACalls.intoG k89 rfl hw
/-- civil.Least -/
def c60 : AC := (.seq (.reg [⟨(some 0), none, (.mv (.const (.int .i64 0)))⟩]) (.seq (.reg [⟨(some 1), none, (.call (.func 78) [])⟩, ⟨(some 2), none, (.bin .mul (.tmp 1) (.const (.int .i64 86400)))⟩, ⟨(some 0), none, (.mv (.tmp 2))⟩]) .ret))
theorem k60 : compF Try.prog 60 = some ⟨c60, [(.tmp 0)], 3⟩ := by kernel_rfl
theorem i60 {h : AH} {R : AE → Prop} (hw : ∀ n, h.length = n → (∀ e ∈ h, e.lt n = true) → AV.ltL n [] = true → AV.bdL [] → aw Try.prog n c60 (retA [(.tmp 0)] fun x h' => ∃ z, h' = h ++ z ∧ x.lt n = true ∧ R x) [.any, .any, .any] (h ++ [])) : ACalls Try.prog 60 [] h fun x h' => h' = h ∧ R x := ACalls.into k60 rfl hw
theorem w60 {h : AH} {res : AV} (hw : ∀ n, h.length = n → (∀ e ∈ h, e.lt n = true) → AV.ltL n [] = true → AV.bdL [] → aw Try.prog n c60 (retA [(.tmp 0)] fun x h' => ∃ z, h' = h ++ z ∧ x.lt n = true ∧ ∃ c, x = .ret c ∧ Wk c res) [.any, .any, .any] (h ++ [])) : ACalls Try.prog 60 [] h fun x h' => h' = h ∧ x = .ret res := ACalls.weak (ACalls.into k60 rfl hw)
theorem n60 {h : AH} {R : AE → AH → Prop} (hw : ∀ n, h.length = n → (∀ e ∈ h, e.lt n = true) → AV.ltL n [] = true → AV.bdL [] → aw Try.prog n c60 (retA [(.tmp 0)] R) [.any, .any, .any] (h ++ [])) : ACalls Try.prog 60 [] h R := ACalls.intoN k60 rfl hw
theorem j60 {h : AH} {R : AE → AH → Prop} (hw : ∀ n, h.length = n → (∀ e ∈ h, e.lt n = true) → AV.ltL n [] = true → AV.bdL [] → aw Try.prog n c60 (retA [(.tmp 0)] fun x h' => ∃ y z, h' = y ++ z ∧ y.length = n ∧ (∀ e ∈ y, e.lt n = true) ∧ x.lt n = true ∧ R x y) [.any, .any, .any] (h ++ [])) : ACalls Try.prog 60 [] h R := ACalls.intoG k60 rfl hw
/-- civil.Most -/
def c79 : AC := (.seq (.reg [⟨(some 0), none, (.mv (.const (.int .i64 0)))⟩]) (.seq (.reg [⟨(some 1), none, (.call (.func 89) [])⟩, ⟨(some 2), none, (.bin .add (.tmp 1) (.const (.int .i64 1)))⟩, ⟨(some 3), none, (.bin .mul (.tmp 2) (.const (.int .i64 86400)))⟩, ⟨(some 4), none, (.bin .sub (.tmp 3) (.const (.int .i64 1)))⟩, ⟨(some 0), none, (.mv (.tmp 4))⟩]) .ret))
theorem k79 : compF Try.prog 79 = some ⟨c79, [(.tmp 0)], 5⟩ := by kernel_rfl
theorem i79 {h : AH} {R : AE → Prop} (hw : ∀ n, h.length = n → (∀ e ∈ h, e.lt n = true) → AV.ltL n [] = true → AV.bdL [] → aw Try.prog n c79 (retA [(.tmp 0)] fun x h' => ∃ z, h' = h ++ z ∧ x.lt n = true ∧ R x) [.any, .any, .any, .any, .any] (h ++ [])) : ACalls Try.prog 79 [] h fun x h' => h' = h ∧ R x := ACalls.into k79 rfl hw
theorem w79 {h : AH} {res : AV} (hw : ∀ n, h.length = n → (∀ e ∈ h, e.lt n = true) → AV.ltL n [] = true → AV.bdL [] → aw Try.prog n c79 (retA [(.tmp 0)] fun x h' => ∃ z, h' = h ++ z ∧ x.lt n = true ∧ ∃ c, x = .ret c ∧ Wk c res) [.any, .any, .any, .any, .any] (h ++ [])) : ACalls Try.prog 79 [] h fun x h' => h' = h ∧ x = .ret res := ACalls.weak (ACalls.into k79 rfl hw)
theorem n79 {h : AH} {R : AE → AH → Prop} (hw : ∀ n, h.length = n → (∀ e ∈ h, e.lt n = true) → AV.ltL n [] = true → AV.bdL [] → aw Try.prog n c79 (retA [(.tmp 0)] R) [.any, .any, .any, .any, .any] (h ++ [])) : ACalls Try.prog 79 [] h R := ACalls.intoN k79 rfl hw
theorem j79 {h : AH} {R : AE → AH → Prop} (hw : ∀ n, h.length = n → (∀ e ∈ h, e.lt n = true) → AV.ltL n [] = true → AV.bdL [] → aw Try.prog n c79 (retA [(.tmp 0)] fun x h' => ∃ y z, h' = y ++ z ∧ y.length = n ∧ (∀ e ∈ y, e.lt n = true) ∧ x.lt n = true ∧ R x y) [.any, .any, .any, .any, .any] (h ++ [])) : ACalls Try.prog 79 [] h R := ACalls.intoG k79 rfl hw
/-- table.Time -/
def c61 : AC := (.seq (.reg [⟨(some 2), none, (.mv (.const (.bool false)))⟩]) (.seq (.reg [⟨(some 3), none, (.mv (.tmp 0))⟩, ⟨(some 4), none, (.call (.func 60) [])⟩, ⟨(some 5), none, (.call (.func 79) [])⟩, ⟨(some 6), none, (.call (.func 76) [(.tmp 3), (.tmp 4), (.tmp 5)])⟩, ⟨(some 2), none, (.mv (.tmp 6))⟩]) .ret))
theorem k61 : compF Try.prog 61 = some ⟨c61, [(.tmp 2)], 7⟩ := by kernel_rfl
theorem i61 {a0 : AV} {h : AH} {R : AE → Prop} (hw : ∀ n, h.length = n → (∀ e ∈ h, e.lt n = true) → AV.ltL n [a0] = true → AV.bdL [a0] → aw Try.prog n c61 (retA [(.tmp 2)] fun x h' => ∃ z, h' = h ++ z ∧ x.lt n = true ∧ R x) [a0, .any, .any, .any, .any, .any, .any] (h ++ [])) : ACalls Try.prog 61 [a0] h fun x h' => h' = h ∧ R x := ACalls.into k61 rfl hw
theorem w61 {a0 : AV} {h : AH} {res : AV} (hw : ∀ n, h.length = n → (∀ e ∈ h, e.lt n = true) → AV.ltL n [a0] = true → AV.bdL [a0] → aw Try.prog n c61 (retA [(.tmp 2)] fun x h' => ∃ z, h' = h ++ z ∧ x.lt n = true ∧ ∃ c, x = .ret c ∧ Wk c res) [a0, .any, .any, .any, .any, .any, .any] (h ++ [])) : ACalls Try.prog 61 [a0] h fun x h' => h' = h ∧ x = .ret res := ACalls.weak (ACalls.into k61 rfl hw)
theorem n61 {a0 : AV} {h : AH} {R : AE → AH → Prop} (hw : ∀ n, h.length = n → (∀ e ∈ h, e.lt n = true) → AV.ltL n [a0] = true → AV.bdL [a0] → aw Try.prog n c61 (retA [(.tmp 2)] R) [a0, .any, .any, .any, .any, .any, .any] (h ++ [])) : ACalls Try.prog 61 [a0] h R := ACalls.intoN k61 rfl hw
theorem j61 {a0 : AV} {h : AH} {R : AE → AH → Prop} (hw : ∀ n, h.length = n → (∀ e ∈ h, e.lt n = true) → AV.ltL n [a0] = true → AV.bdL [a0] → aw Try.prog n c61 (retA [(.tmp 2)] fun x h' => ∃ y z, h' = y ++ z ∧ y.length = n ∧ (∀ e ∈ y, e.lt n = true) ∧ x.lt n = true ∧ R x y) [a0, .any, .any, .any, .any, .any, .any] (h ++ [])) : ACalls Try.prog 61 [a0] h R := ACalls.intoG k61 rfl hw
/-- table.local -/
def c59 : AC := (.seq (.reg [⟨(some 1), none, (.box 23 3 (.tmp 0))⟩, ⟨(some 2), none, (.mv (.const (.int .i64 0)))⟩]) (.seq (.block 0 (.seq (.reg [⟨(some 4), none, (.fa 0 (.tmp 1))⟩, ⟨(some 5), none, (.load false 1 (.tmp 4))⟩, ⟨(some 6), none, (.call (.func 76) [(.tmp 5), (.const (.int .i64 (-75600))), (.const (.int .i64 75600))])⟩, ⟨(some 7), none, (.un .not (.tmp 6))⟩, ⟨(some 8), none, (.mv (.tmp 7))⟩, ⟨(some 9), (some (8, false)), (.fa 1 (.tmp 1))⟩, ⟨(some 10), (some (8, false)), (.load false 1 (.tmp 9))⟩, ⟨(some 11), (some (8, false)), (.call (.func 76) [(.tmp 10), (.const (.int .i64 0)), (.const (.int .i64 10800))])⟩, ⟨(some 12), (some (8, false)), (.un .not (.tmp 11))⟩, ⟨(some 13), none, (.pick (.tmp 8) (.const (.bool true)) (.tmp 12))⟩, ⟨(some 3), none, (.mv (.tmp 13))⟩]) (.cond (.tmp 3) (.seq (.reg [⟨(some 2), none, (.mv (.const (.int .i64 3)))⟩]) .ret) (.seq (.reg [⟨(some 15), none, (.fa 2 (.tmp 1))⟩, ⟨(some 16), none, (.load false 1 (.tmp 15))⟩, ⟨(some 17), none, (.bin .eql (.tmp 16) (.const (.string ⟨#[]⟩)))⟩, ⟨(some 18), none, (.mv (.tmp 17))⟩, ⟨(some 19), (some (18, false)), (.fa 2 (.tmp 1))⟩, ⟨(some 20), (some (18, false)), (.load false 1 (.tmp 19))⟩, ⟨(some 21), (some (18, false)), (.len true (.tmp 20))⟩, ⟨(some 22), (some (18, false)), (.bin .gtr (.tmp 21) (.const (.int .i64 24)))⟩, ⟨(some 23), none, (.pick (.tmp 18) (.const (.bool true)) (.tmp 22))⟩, ⟨(some 24), none, (.mv (.tmp 23))⟩, ⟨(some 25), (some (24, false)), (.fa 2 (.tmp 1))⟩, ⟨(some 26), (some (24, false)), (.load false 1 (.tmp 25))⟩, ⟨(some 27), (some (24, false)), (.call (.func 77) [(.tmp 26)])⟩, ⟨(some 28), (some (24, false)), (.un .not (.tmp 27))⟩, ⟨(some 29), none, (.pick (.tmp 24) (.const (.bool true)) (.tmp 28))⟩, ⟨(some 14), none, (.mv (.tmp 29))⟩]) (.cond (.tmp 14) (.seq (.reg [⟨(some 2), none, (.mv (.const (.int .i64 1)))⟩]) .ret) .skip))))) (.seq (.reg [⟨(some 2), none, (.mv (.const (.int .i64 0)))⟩]) .ret)))
theorem k59 : compF Try.prog 59 = some ⟨c59, [(.tmp 2)], 30⟩ := by kernel_rfl
theorem i59 {a0 : AV} {h : AH} {R : AE → Prop} (hw : ∀ n, h.length = n → (∀ e ∈ h, e.lt n = true) → AV.ltL n [a0] = true → AV.bdL [a0] → aw Try.prog n c59 (retA [(.tmp 2)] fun x h' => ∃ z, h' = h ++ z ∧ x.lt n = true ∧ R x) [a0, .any, .any, .any, .any, .any, .any, .any, .any, .any, .any, .any, .any, .any, .any, .any, .any, .any, .any, .any, .any, .any, .any, .any, .any, .any, .any, .any, .any, .any] (h ++ [])) : ACalls Try.prog 59 [a0] h fun x h' => h' = h ∧ R x := ACalls.into k59 rfl hw
theorem w59 {a0 : AV} {h : AH} {res : AV} (hw : ∀ n, h.length = n → (∀ e ∈ h, e.lt n = true) → AV.ltL n [a0] = true → AV.bdL [a0] → aw Try.prog n c59 (retA [(.tmp 2)] fun x h' => ∃ z, h' = h ++ z ∧ x.lt n = true ∧ ∃ c, x = .ret c ∧ Wk c res) [a0, .any, .any, .any, .any, .any, .any, .any, .any, .any, .any, .any, .any, .any, .any, .any, .any, .any, .any, .any, .any, .any, .any, .any, .any, .any, .any, .any, .any, .any] (h ++ [])) : ACalls Try.prog 59 [a0] h fun x h' => h' = h ∧ x = .ret res := ACalls.weak (ACalls.into k59 rfl hw)
theorem n59 {a0 : AV} {h : AH} {R : AE → AH → Prop} (hw : ∀ n, h.length = n → (∀ e ∈ h, e.lt n = true) → AV.ltL n [a0] = true → AV.bdL [a0] → aw Try.prog n c59 (retA [(.tmp 2)] R) [a0, .any, .any, .any, .any, .any, .any, .any, .any, .any, .any, .any, .any, .any, .any, .any, .any, .any, .any, .any, .any, .any, .any, .any, .any, .any, .any, .any, .any, .any] (h ++ [])) : ACalls Try.prog 59 [a0] h R := ACalls.intoN k59 rfl hw
theorem j59 {a0 : AV} {h : AH} {R : AE → AH → Prop} (hw : ∀ n, h.length = n → (∀ e ∈ h, e.lt n = true) → AV.ltL n [a0] = true → AV.bdL [a0] → aw Try.prog n c59 (retA [(.tmp 2)] fun x h' => ∃ y z, h' = y ++ z ∧ y.length = n ∧ (∀ e ∈ y, e.lt n = true) ∧ x.lt n = true ∧ R x y) [a0, .any, .any, .any, .any, .any, .any, .any, .any, .any, .any, .any, .any, .any, .any, .any, .any, .any, .any, .any, .any, .any, .any, .any, .any, .any, .any, .any, .any, .any] (h ++ [])) : ACalls Try.prog 59 [a0] h R := ACalls.intoG k59 rfl hw
abbrev uv (n : Int) : AV := .v (.int .u8 n)
theorem bvx {a b : Bool} (h : a = b) : bv a = bv b := by rw [h]
theorem letter_a {n : Int} {h : AH} : ACalls Try.prog 98 [uv n] h fun x h' => h' = h ∧ x = .ret (bv (letB n)) := by
  refine i98 ?_
  intro N hn hlt hlA hbd
  try simp only [AV.bdL, AV.bd, and_true, true_and] at hbd
  refine w_seq ?_
  refine w_reg ?_
  refine s_val rfl (v_mv lkb) pt2 ?_
  refine s_nil ?_
  refine n_seq ?_
  refine w_seq ?_
  refine w_reg ?_
  refine s_val rfl (v_mv lk0) pt3 ?_
  refine s_val rfl (v_geq lk3 lki) pt4 ?_
  refine s_val rfl (v_mv lk4) pt5 ?_
  first | refine s_splitP gt5 pt5 pt5 (fun hg5 => ?_) (fun hg5 => ?_) | refine s_splitB gt5 pt5 pt5 (fun hg5 => ?_) (fun hg5 => ?_)
  · skip
    refine s_do gt5 ?_
    refine s_val rfl (v_mv lk0) pt6 ?_
    refine s_do gt5 ?_
    refine s_val rfl (v_leq lk6 lki) pt7 ?_
    refine s_val rfl (v_pickT lk5 lk7) pt8 ?_
    refine s_val rfl (v_mv lk8) pt9 ?_
    first | refine s_splitP gt9 pt9 pt9 (fun hg9 => ?_) (fun hg9 => ?_) | refine s_splitB gt9 pt9 pt9 (fun hg9 => ?_) (fun hg9 => ?_)
    · skip
      refine s_no gt9 pt10 ?_
      refine s_no gt9 pt11 ?_
      refine s_no gt9 pt12 ?_
      refine s_nu gt12 pt13 ?_
      refine s_nu gt12 pt14 ?_
      refine s_no gt9 pt15 ?_
      refine s_val rfl (v_pickT lk9 lkb) pt16 ?_
      refine s_val rfl (v_mv lk16) pt2 ?_
      refine s_nil ?_
      refine n_seq ?_
      refine w_rets ?_
      refine w_ret (rs1 (rr_t gt2)) ?_
      refine rt (by first | rfl | (simp only [AV.lt, AV.ltL, Ent.lt, List.all_cons, List.all_nil, Bool.and_true, Bool.and_self, decide_true]; done) | (simp [AV.lt, AV.ltL, Ent.lt, *]; done) | (simp [AV.lt, AV.ltL, Ent.lt, *]; omega)) ?_
      refine bvx ?_; unfold letB; rw [Bool.eq_iff_iff]; simp; omega
    · skip
      refine s_do gt9 ?_
      refine s_val rfl (v_mv lk0) pt10 ?_
      refine s_do gt9 ?_
      refine s_val rfl (v_geq lk10 lki) pt11 ?_
      refine s_do gt9 ?_
      refine s_val rfl (v_mv lk11) pt12 ?_
      first | refine s_splitP gt12 pt12 pt12 (fun hg12 => ?_) (fun hg12 => ?_) | refine s_splitB gt12 pt12 pt12 (fun hg12 => ?_) (fun hg12 => ?_)
      · skip
        refine s_do gt12 ?_
        refine s_val rfl (v_mv lk0) pt13 ?_
        refine s_do gt12 ?_
        refine s_val rfl (v_leq lk13 lki) pt14 ?_
        refine s_do gt9 ?_
        refine s_val rfl (v_pickT lk12 lk14) pt15 ?_
        refine s_val rfl (v_pickF lk9 lk15) pt16 ?_
        refine s_val rfl (v_mv lk16) pt2 ?_
        refine s_nil ?_
        refine n_seq ?_
        refine w_rets ?_
        refine w_ret (rs1 (rr_t gt2)) ?_
        refine rt (by first | rfl | (simp only [AV.lt, AV.ltL, Ent.lt, List.all_cons, List.all_nil, Bool.and_true, Bool.and_self, decide_true]; done) | (simp [AV.lt, AV.ltL, Ent.lt, *]; done) | (simp [AV.lt, AV.ltL, Ent.lt, *]; omega)) ?_
        refine bvx ?_; unfold letB; rw [Bool.eq_iff_iff]; simp; omega
      · skip
        refine s_no gt12 pt13 ?_
        refine s_no gt12 pt14 ?_
        refine s_do gt9 ?_
        refine s_val rfl (v_pickF lk12 lkb) pt15 ?_
        refine s_val rfl (v_pickF lk9 lk15) pt16 ?_
        refine s_val rfl (v_mv lk16) pt2 ?_
        refine s_nil ?_
        refine n_seq ?_
        refine w_rets ?_
        refine w_ret (rs1 (rr_t gt2)) ?_
        refine rt (by first | rfl | (simp only [AV.lt, AV.ltL, Ent.lt, List.all_cons, List.all_nil, Bool.and_true, Bool.and_self, decide_true]; done) | (simp [AV.lt, AV.ltL, Ent.lt, *]; done) | (simp [AV.lt, AV.ltL, Ent.lt, *]; omega)) ?_
        refine bvx ?_; unfold letB; rw [Bool.eq_iff_iff]; simp; omega
  · skip
    refine s_no gt5 pt6 ?_
    refine s_no gt5 pt7 ?_
    refine s_val rfl (v_pickF lk5 lkb) pt8 ?_
    refine s_val rfl (v_mv lk8) pt9 ?_
    refine s_do gt9 ?_
    refine s_val rfl (v_mv lk0) pt10 ?_
    refine s_do gt9 ?_
    refine s_val rfl (v_geq lk10 lki) pt11 ?_
    refine s_do gt9 ?_
    refine s_val rfl (v_mv lk11) pt12 ?_
    first | refine s_splitP gt12 pt12 pt12 (fun hg12 => ?_) (fun hg12 => ?_) | refine s_splitB gt12 pt12 pt12 (fun hg12 => ?_) (fun hg12 => ?_)
    · skip
      refine s_do gt12 ?_
      refine s_val rfl (v_mv lk0) pt13 ?_
      refine s_do gt12 ?_
      refine s_val rfl (v_leq lk13 lki) pt14 ?_
      refine s_do gt9 ?_
      refine s_val rfl (v_pickT lk12 lk14) pt15 ?_
      refine s_val rfl (v_pickF lk9 lk15) pt16 ?_
      refine s_val rfl (v_mv lk16) pt2 ?_
      refine s_nil ?_
      refine n_seq ?_
      refine w_rets ?_
      refine w_ret (rs1 (rr_t gt2)) ?_
      refine rt (by first | rfl | (simp only [AV.lt, AV.ltL, Ent.lt, List.all_cons, List.all_nil, Bool.and_true, Bool.and_self, decide_true]; done) | (simp [AV.lt, AV.ltL, Ent.lt, *]; done) | (simp [AV.lt, AV.ltL, Ent.lt, *]; omega)) ?_
      refine bvx ?_; unfold letB; rw [Bool.eq_iff_iff]; simp; omega
    · skip
      refine s_no gt12 pt13 ?_
      refine s_no gt12 pt14 ?_
      refine s_do gt9 ?_
      refine s_val rfl (v_pickF lk12 lkb) pt15 ?_
      refine s_val rfl (v_pickF lk9 lk15) pt16 ?_
      refine s_val rfl (v_mv lk16) pt2 ?_
      refine s_nil ?_
      refine n_seq ?_
      refine w_rets ?_
      refine w_ret (rs1 (rr_t gt2)) ?_
      refine rt (by first | rfl | (simp only [AV.lt, AV.ltL, Ent.lt, List.all_cons, List.all_nil, Bool.and_true, Bool.and_self, decide_true]; done) | (simp [AV.lt, AV.ltL, Ent.lt, *]; done) | (simp [AV.lt, AV.ltL, Ent.lt, *]; omega)) ?_
      refine bvx ?_; unfold letB; rw [Bool.eq_iff_iff]; simp; omega
theorem digit_a {n : Int} {h : AH} : ACalls Try.prog 99 [uv n] h fun x h' => h' = h ∧ x = .ret (bv (digB n)) := by
  refine i99 ?_
  intro N hn hlt hlA hbd
  try simp only [AV.bdL, AV.bd, and_true, true_and] at hbd
  refine w_seq ?_
  refine w_reg ?_
  refine s_val rfl (v_mv lkb) pt2 ?_
  refine s_nil ?_
  refine n_seq ?_
  refine w_seq ?_
  refine w_reg ?_
  refine s_val rfl (v_mv lk0) pt3 ?_
  refine s_val rfl (v_geq lk3 lki) pt4 ?_
  refine s_val rfl (v_mv lk4) pt5 ?_
  first | refine s_splitP gt5 pt5 pt5 (fun hg5 => ?_) (fun hg5 => ?_) | refine s_splitB gt5 pt5 pt5 (fun hg5 => ?_) (fun hg5 => ?_)
  · skip
    refine s_do gt5 ?_
    refine s_val rfl (v_mv lk0) pt6 ?_
    refine s_do gt5 ?_
    refine s_val rfl (v_leq lk6 lki) pt7 ?_
    refine s_val rfl (v_pickT lk5 lk7) pt8 ?_
    refine s_val rfl (v_mv lk8) pt2 ?_
    refine s_nil ?_
    refine n_seq ?_
    refine w_rets ?_
    refine w_ret (rs1 (rr_t gt2)) ?_
    refine rt (by first | rfl | (simp only [AV.lt, AV.ltL, Ent.lt, List.all_cons, List.all_nil, Bool.and_true, Bool.and_self, decide_true]; done) | (simp [AV.lt, AV.ltL, Ent.lt, *]; done) | (simp [AV.lt, AV.ltL, Ent.lt, *]; omega)) ?_
    refine bvx ?_; unfold digB; rw [Bool.eq_iff_iff]; simp; omega
  · skip
    refine s_no gt5 pt6 ?_
    refine s_no gt5 pt7 ?_
    refine s_val rfl (v_pickF lk5 lkb) pt8 ?_
    refine s_val rfl (v_mv lk8) pt2 ?_
    refine s_nil ?_
    refine n_seq ?_
    refine w_rets ?_
    refine w_ret (rs1 (rr_t gt2)) ?_
    refine rt (by first | rfl | (simp only [AV.lt, AV.ltL, Ent.lt, List.all_cons, List.all_nil, Bool.and_true, Bool.and_self, decide_true]; done) | (simp [AV.lt, AV.ltL, Ent.lt, *]; done) | (simp [AV.lt, AV.ltL, Ent.lt, *]; omega)) ?_
    refine bvx ?_; unfold digB; rw [Bool.eq_iff_iff]; simp; omega
theorem plain1_a {n : Int} {h : AH} : ACalls Try.prog 97 [uv n] h fun x h' => h' = h ∧ x = .ret (bv (plainB n)) := by
  refine i97 ?_
  intro N hn hlt hlA hbd
  try simp only [AV.bdL, AV.bd, and_true, true_and] at hbd
  refine w_seq ?_
  refine w_reg ?_
  refine s_val rfl (v_mv lkb) pt2 ?_
  refine s_nil ?_
  refine n_seq ?_
  refine w_seq ?_
  refine w_reg ?_
  refine s_val rfl (v_mv lk0) pt3 ?_
  refine s_callp (mp1 lk3 mp0) (letter_a) pt4 ?_
  refine s_val rfl (v_mv lk4) pt5 ?_
  refine s_splitB gt5 pt5 pt5 (fun hg5 => ?_) (fun hg5 => ?_)
  · skip
    refine s_no gt5 pt6 ?_
    refine s_no gt5 pt7 ?_
    refine s_val rfl (v_pickT lk5 lkb) pt8 ?_
    refine s_val rfl (v_mv lk8) pt9 ?_
    refine s_no gt9 pt10 ?_
    refine s_no gt9 pt11 ?_
    refine s_val rfl (v_pickT lk9 lkb) pt12 ?_
    refine s_val rfl (v_mv lk12) pt13 ?_
    refine s_no gt13 pt14 ?_
    refine s_no gt13 pt15 ?_
    refine s_val rfl (v_pickT lk13 lkb) pt16 ?_
    refine s_val rfl (v_mv lk16) pt2 ?_
    refine s_nil ?_
    refine n_seq ?_
    refine w_rets ?_
    refine w_ret (rs1 (rr_t gt2)) ?_
    refine rt (by first | rfl | (simp only [AV.lt, AV.ltL, Ent.lt, List.all_cons, List.all_nil, Bool.and_true, Bool.and_self, decide_true]; done) | (simp [AV.lt, AV.ltL, Ent.lt, *]; done) | (simp [AV.lt, AV.ltL, Ent.lt, *]; omega)) ?_
    refine bvx ?_; unfold plainB; rw [Bool.eq_iff_iff]; simp_all
  · skip
    refine s_do gt5 ?_
    refine s_val rfl (v_mv lk0) pt6 ?_
    refine s_do gt5 ?_
    refine s_callp (mp1 lk6 mp0) (digit_a) pt7 ?_
    refine s_val rfl (v_pickF lk5 lk7) pt8 ?_
    refine s_val rfl (v_mv lk8) pt9 ?_
    refine s_splitB gt9 pt9 pt9 (fun hg9 => ?_) (fun hg9 => ?_)
    · skip
      refine s_no gt9 pt10 ?_
      refine s_no gt9 pt11 ?_
      refine s_val rfl (v_pickT lk9 lkb) pt12 ?_
      refine s_val rfl (v_mv lk12) pt13 ?_
      refine s_no gt13 pt14 ?_
      refine s_no gt13 pt15 ?_
      refine s_val rfl (v_pickT lk13 lkb) pt16 ?_
      refine s_val rfl (v_mv lk16) pt2 ?_
      refine s_nil ?_
      refine n_seq ?_
      refine w_rets ?_
      refine w_ret (rs1 (rr_t gt2)) ?_
      refine rt (by first | rfl | (simp only [AV.lt, AV.ltL, Ent.lt, List.all_cons, List.all_nil, Bool.and_true, Bool.and_self, decide_true]; done) | (simp [AV.lt, AV.ltL, Ent.lt, *]; done) | (simp [AV.lt, AV.ltL, Ent.lt, *]; omega)) ?_
      refine bvx ?_; unfold plainB; rw [Bool.eq_iff_iff]; simp_all
    · skip
      refine s_do gt9 ?_
      refine s_val rfl (v_mv lk0) pt10 ?_
      refine s_do gt9 ?_
      refine s_val rfl (v_eql lk10 lki) pt11 ?_
      refine s_val rfl (v_pickF lk9 lk11) pt12 ?_
      refine s_val rfl (v_mv lk12) pt13 ?_
      first | refine s_splitP gt13 pt13 pt13 (fun hg13 => ?_) (fun hg13 => ?_) | refine s_splitB gt13 pt13 pt13 (fun hg13 => ?_) (fun hg13 => ?_)
      · skip
        refine s_no gt13 pt14 ?_
        refine s_no gt13 pt15 ?_
        refine s_val rfl (v_pickT lk13 lkb) pt16 ?_
        refine s_val rfl (v_mv lk16) pt2 ?_
        refine s_nil ?_
        refine n_seq ?_
        refine w_rets ?_
        refine w_ret (rs1 (rr_t gt2)) ?_
        refine rt (by first | rfl | (simp only [AV.lt, AV.ltL, Ent.lt, List.all_cons, List.all_nil, Bool.and_true, Bool.and_self, decide_true]; done) | (simp [AV.lt, AV.ltL, Ent.lt, *]; done) | (simp [AV.lt, AV.ltL, Ent.lt, *]; omega)) ?_
        refine bvx ?_; unfold plainB; rw [Bool.eq_iff_iff]; simp_all
      · skip
        refine s_do gt13 ?_
        refine s_val rfl (v_mv lk0) pt14 ?_
        refine s_do gt13 ?_
        refine s_val rfl (v_eql lk14 lki) pt15 ?_
        refine s_val rfl (v_pickF lk13 lk15) pt16 ?_
        refine s_val rfl (v_mv lk16) pt2 ?_
        refine s_nil ?_
        refine n_seq ?_
        refine w_rets ?_
        refine w_ret (rs1 (rr_t gt2)) ?_
        refine rt (by first | rfl | (simp only [AV.lt, AV.ltL, Ent.lt, List.all_cons, List.all_nil, Bool.and_true, Bool.and_self, decide_true]; done) | (simp [AV.lt, AV.ltL, Ent.lt, *]; done) | (simp [AV.lt, AV.ltL, Ent.lt, *]; omega)) ?_
        refine bvx ?_; unfold plainB; rw [Bool.eq_iff_iff]; simp_all
theorem all_a {p : Int → Bool} {f : FuncId} (hp : ∀ (n : Int) (h : AH), ACalls Try.prog f [uv n] h fun x h' => h' = h ∧ x = .ret (bv (p n))) {s : ByteArray} (hs : s.size ≤ maxLen) {h : AH} :
    ACalls Try.prog 96 [sv s, .v (.func (.func f) #[] #[])] h fun x h' => h' = h ∧ x = .ret (bv (allB p s)) := by
  have hm : s.size ≤ 9223372036854775807 := by simpa [maxLen] using hs
  refine i96 ?_
  intro N hn hlt hlA hbd
  try simp only [AV.bdL, AV.bd, and_true, true_and] at hbd
  refine w_seq ?_
  refine w_reg ?_
  refine s_val rfl (v_mv lkb) pt4 ?_
  refine s_nil ?_
  refine n_seq ?_
  refine w_seq ?_
  refine w_seq ?_
  refine w_reg ?_
  refine s_val rfl (v_mv lk0) pt6 ?_
  refine s_val rfl (v_lenS lk6) pt7 ?_
  refine s_val rfl (v_mv lki) pt8 ?_
  refine s_nil ?_
  refine n_seq ?_
  refine w_block ?_
  refine w_loop (ι := Nat) (fun (k : Nat) => [(8, iv (k : Int)), (4, .any), (5, .any), (9, .any), (10, .any), (11, .any), (12, .any), (13, .any), (14, .any), (15, .any), (16, .any), (17, .any)]) (fun (k : Nat) => []) (fun (k : Nat) => k ≤ s.size ∧ ∀ j (hj : j < s.size), j < k → p s[j].toNat = true) (fun (k : Nat) => s.size - k) (0) (by exact ⟨by omega, fun j hj h0 => absurd h0 (by omega)⟩) (by try simp only [setsT, setsE, List.set_cons_zero, List.set_cons_succ]; exact ALe.same (wk1 rfl (wk1 rfl (wk1 rfl (wk1 rfl (wka (wka (wk1 rfl (wk1 rfl (wk1 (by first | rfl | exact ivx (by omega) | (simp; done)) (wka (wka (wka (wka (wka (wka (wka (wka (wka wk0)))))))))))))))))) rfl) ?_
  rintro k hi1
  try simp only [setsT, setsE, List.set_cons_zero, List.set_cons_succ]
  obtain ⟨hk1, hk2⟩ := hi1
  refine w_seq ?_
  refine w_reg ?_
  refine s_val rfl (v_lss lk8 lk7) pt9 ?_
  refine s_nil ?_
  refine n_seq ?_
  refine w_seq ?_
  first | refine w_cond lk9 (fun hc1 => ?_) (fun hc1 => ?_) | refine w_condB lk9 (fun hc1 => ?_) (fun hc1 => ?_)
  · skip
    refine w_skip ?_
    refine n_seq ?_
    refine w_seq ?_
    refine w_block ?_
    refine w_seq ?_
    refine w_reg ?_
    refine s_val rfl (v_mv lk8) pt10 ?_
    refine s_val rfl (v_mv lk10) pt5 ?_
    refine s_nil ?_
    refine n_seq ?_
    refine w_seq ?_
    refine w_reg ?_
    refine s_val rfl (v_mv lk1) pt11 ?_
    refine s_val rfl (v_mv lk0) pt12 ?_
    refine s_val rfl (v_mv lk5) pt13 ?_
    refine s_val rfl (v_ix lk12 lk13 (by omega) (by omega)) pt14 ?_
    refine s_callT lk11 (mp1 lk14 mp0) (hp _ _) pt15 ?_
    refine s_val rfl (v_notB lk15) pt16 ?_
    refine s_nil ?_
    refine n_seq ?_
    rw [byteAt_get (by omega)] at *
    refine w_condB lk16 (fun hc2 => ?_) (fun hc2 => ?_)
    · skip
      refine w_seq ?_
      refine w_reg ?_
      refine s_val rfl (v_mv lkb) pt4 ?_
      refine s_nil ?_
      refine n_seq ?_
      refine w_rets ?_
      refine r_blk ?_
      refine r_thn ?_
      refine r_thn ?_
      refine r_blk ?_
      refine r_thn ?_
      refine w_ret (rs1 (rr_t gt4)) ?_
      refine rt (by first | rfl | (simp only [AV.lt, AV.ltL, Ent.lt, List.all_cons, List.all_nil, Bool.and_true, Bool.and_self, decide_true]; done) | (simp [AV.lt, AV.ltL, Ent.lt, *]; done) | (simp [AV.lt, AV.ltL, Ent.lt, *]; omega)) ?_
      refine bvx ?_; rw [allB_no (k := k) (by omega) (by simpa [byteAt_get (show k < s.size by omega)] using hc2)]
    · skip
      refine w_skip ?_
      refine n_blk ?_
      refine n_seq ?_
      refine w_reg ?_
      refine s_val rfl (v_add lk8 lki (by omega) (by omega)) pt17 ?_
      refine s_val rfl (v_mv lk17) pt8 ?_
      refine s_nil ?_
      refine n_thn ?_
      refine LoopTo.mk (k + 1) (by omega) (by (try dsimp only); refine ⟨by omega, fun j hj h0 => ?_⟩; by_cases e : j = k; subst e; simpa [byteAt_get hj] using hc2; exact hk2 j hj (by omega)) (by (try dsimp only); (try simp only [setsT, setsE, List.set_cons_zero, List.set_cons_succ]); exact ALe.same (wk1 rfl (wk1 rfl (wk1 rfl (wk1 rfl (wka (wka (wk1 rfl (wk1 rfl (wk1 (by first | rfl | exact ivx (by omega) | (simp; done)) (wka (wka (wka (wka (wka (wka (wka (wka (wka wk0)))))))))))))))))) rfl)
  · skip
    refine w_exit ?_
    refine x_thn ?_
    refine x_thn ?_
    refine x_blk ?_
    refine n_seq ?_
    refine w_seq ?_
    refine w_reg ?_
    refine s_val rfl (v_mv lkb) pt4 ?_
    refine s_nil ?_
    refine n_seq ?_
    refine w_rets ?_
    refine w_ret (rs1 (rr_t gt4)) ?_
    refine rt (by first | rfl | (simp only [AV.lt, AV.ltL, Ent.lt, List.all_cons, List.all_nil, Bool.and_true, Bool.and_self, decide_true]; done) | (simp [AV.lt, AV.ltL, Ent.lt, *]; done) | (simp [AV.lt, AV.ltL, Ent.lt, *]; omega)) ?_
    refine bvx ?_; rw [allB_yes fun j hj => hk2 j hj (by omega)]
theorem plain_a {s : ByteArray} {h : AH} (hs : s.size ≤ maxLen := by first | assumption | omega) : ACalls Try.prog 77 [sv s] h fun x h' => h' = h ∧ x = .ret (bv (allB plainB s)) := by
  refine i77 ?_
  intro N hn hlt hlA hbd
  try simp only [AV.bdL, AV.bd, and_true, true_and] at hbd
  refine w_seq ?_
  refine w_reg ?_
  refine s_val rfl (v_mv lkb) pt2 ?_
  refine s_nil ?_
  refine n_seq ?_
  refine w_seq ?_
  refine w_reg ?_
  refine s_val rfl (v_mv lk0) pt3 ?_
  refine s_callp (mp1 lk3 (mp1 lkf mp0)) (all_a (fun _ _ => plain1_a) hs) pt4 ?_
  refine s_val rfl (v_mv lk4) pt2 ?_
  refine s_nil ?_
  refine n_seq ?_
  refine w_rets ?_
  refine w_ret (rs1 (rr_t gt2)) ?_
  refine rt (by first | rfl | (simp only [AV.lt, AV.ltL, Ent.lt, List.all_cons, List.all_nil, Bool.and_true, Bool.and_self, decide_true]; done) | (simp [AV.lt, AV.ltL, Ent.lt, *]; done) | (simp [AV.lt, AV.ltL, Ent.lt, *]; omega)) ?_
  rfl
theorem within_a {n a b : Int} {h : AH} : ACalls Try.prog 76 [iv n, iv a, iv b] h fun x h' => h' = h ∧ x = .ret (bv (wi n a b)) := by
  refine i76 ?_
  intro N hn hlt hlA hbd
  try simp only [AV.bdL, AV.bd, and_true, true_and] at hbd
  refine w_seq ?_
  refine w_reg ?_
  refine s_val rfl (v_mv lkb) pt6 ?_
  refine s_nil ?_
  refine n_seq ?_
  refine w_seq ?_
  refine w_reg ?_
  refine s_val rfl (v_mv lk0) pt7 ?_
  refine s_val rfl (v_mv lk1) pt8 ?_
  refine s_val rfl (v_geq lk7 lk8) pt9 ?_
  refine s_val rfl (v_mv lk9) pt10 ?_
  first | refine s_splitP gt10 pt10 pt10 (fun hg10 => ?_) (fun hg10 => ?_) | refine s_splitB gt10 pt10 pt10 (fun hg10 => ?_) (fun hg10 => ?_)
  · skip
    refine s_do gt10 ?_
    refine s_val rfl (v_mv lk0) pt11 ?_
    refine s_do gt10 ?_
    refine s_val rfl (v_mv lk2) pt12 ?_
    refine s_do gt10 ?_
    refine s_val rfl (v_leq lk11 lk12) pt13 ?_
    refine s_val rfl (v_pickT lk10 lk13) pt14 ?_
    refine s_val rfl (v_mv lk14) pt6 ?_
    refine s_nil ?_
    refine n_seq ?_
    refine w_rets ?_
    refine w_ret (rs1 (rr_t gt6)) ?_
    refine rt (by first | rfl | (simp only [AV.lt, AV.ltL, Ent.lt, List.all_cons, List.all_nil, Bool.and_true, Bool.and_self, decide_true]; done) | (simp [AV.lt, AV.ltL, Ent.lt, *]; done) | (simp [AV.lt, AV.ltL, Ent.lt, *]; omega)) ?_
    refine bvx ?_; unfold wi; rw [Bool.eq_iff_iff]; simp; omega
  · skip
    refine s_no gt10 pt11 ?_
    refine s_no gt10 pt12 ?_
    refine s_no gt10 pt13 ?_
    refine s_val rfl (v_pickF lk10 lkb) pt14 ?_
    refine s_val rfl (v_mv lk14) pt6 ?_
    refine s_nil ?_
    refine n_seq ?_
    refine w_rets ?_
    refine w_ret (rs1 (rr_t gt6)) ?_
    refine rt (by first | rfl | (simp only [AV.lt, AV.ltL, Ent.lt, List.all_cons, List.all_nil, Bool.and_true, Bool.and_self, decide_true]; done) | (simp [AV.lt, AV.ltL, Ent.lt, *]; done) | (simp [AV.lt, AV.ltL, Ent.lt, *]; omega)) ?_
    refine bvx ?_; unfold wi; rw [Bool.eq_iff_iff]; simp; omega
theorem before_a {y : Int} {h : AH} (h0 : 1 ≤ y) (h1 : y ≤ 20000) : ACalls Try.prog 92 [iv y] h fun x h' => h' = h ∧ x = .ret (iv (bef y)) := by
  refine i92 ?_
  intro N hn hlt hlA hbd
  try simp only [AV.bdL, AV.bd, and_true, true_and] at hbd
  refine w_seq ?_
  refine w_reg ?_
  refine s_val rfl (v_mv lki) pt2 ?_
  refine s_nil ?_
  refine n_seq ?_
  refine w_seq ?_
  refine w_reg ?_
  refine s_val rfl (v_mv lk0) pt3 ?_
  refine s_val rfl (v_sub lk3 lki (by omega) (by omega)) pt4 ?_
  refine s_val rfl (v_mv lk4) pt0 ?_
  refine s_nil ?_
  refine n_seq ?_
  refine w_seq ?_
  refine w_reg ?_
  refine s_val rfl (v_mv lk0) pt5 ?_
  refine s_val rfl (v_mul lki lk5 (by omega) (by omega)) pt6 ?_
  refine s_val rfl (v_mv lk0) pt7 ?_
  refine s_val rfl (v_quo lk7 lki (by omega) (by omega) (by omega)) pt8 ?_
  refine s_val rfl (v_add lk6 lk8 (by omega) (by omega)) pt9 ?_
  refine s_val rfl (v_mv lk0) pt10 ?_
  refine s_val rfl (v_quo lk10 lki (by omega) (by omega) (by omega)) pt11 ?_
  refine s_val rfl (v_sub lk9 lk11 (by omega) (by omega)) pt12 ?_
  refine s_val rfl (v_mv lk0) pt13 ?_
  refine s_val rfl (v_quo lk13 lki (by omega) (by omega) (by omega)) pt14 ?_
  refine s_val rfl (v_add lk12 lk14 (by omega) (by omega)) pt15 ?_
  refine s_val rfl (v_mv lk15) pt2 ?_
  refine s_nil ?_
  refine n_seq ?_
  refine w_rets ?_
  refine w_ret (rs1 (rr_t gt2)) ?_
  refine rt (by first | rfl | (simp only [AV.lt, AV.ltL, Ent.lt, List.all_cons, List.all_nil, Bool.and_true, Bool.and_self, decide_true]; done) | (simp [AV.lt, AV.ltL, Ent.lt, *]; done) | (simp [AV.lt, AV.ltL, Ent.lt, *]; omega)) ?_
  unfold bef; rfl
theorem epoch_a {h : AH} : ACalls Try.prog 93 [] h fun x h' => h' = h ∧ x = .ret (iv 719162) := by
  refine i93 ?_
  intro N hn hlt hlA hbd
  try simp only [AV.bdL, AV.bd, and_true, true_and] at hbd
  refine w_seq ?_
  refine w_reg ?_
  refine s_val rfl (v_mv lki) pt0 ?_
  refine s_nil ?_
  refine n_seq ?_
  refine w_seq ?_
  refine w_reg ?_
  refine s_callp (mp1 lki mp0) (before_a (by first | assumption | omega) (by first | assumption | omega)) pt1 ?_
  refine s_val rfl (v_mv lk1) pt0 ?_
  refine s_nil ?_
  refine n_seq ?_
  refine w_rets ?_
  refine w_ret (rs1 (rr_t gt0)) ?_
  refine rt (by first | rfl | (simp only [AV.lt, AV.ltL, Ent.lt, List.all_cons, List.all_nil, Bool.and_true, Bool.and_self, decide_true]; done) | (simp [AV.lt, AV.ltL, Ent.lt, *]; done) | (simp [AV.lt, AV.ltL, Ent.lt, *]; omega)) ?_
  rw [bef_1970]
theorem first_a {h : AH} : ACalls Try.prog 78 [] h fun x h' => h' = h ∧ x = .ret (iv (-719162)) := by
  refine i78 ?_
  intro N hn hlt hlA hbd
  try simp only [AV.bdL, AV.bd, and_true, true_and] at hbd
  refine w_seq ?_
  refine w_reg ?_
  refine s_val rfl (v_mv lki) pt0 ?_
  refine s_nil ?_
  refine n_seq ?_
  refine w_seq ?_
  refine w_reg ?_
  refine s_callp mp0 (epoch_a) pt1 ?_
  refine s_val rfl (v_neg lk1 (by omega) (by omega)) pt2 ?_
  refine s_val rfl (v_mv lk2) pt0 ?_
  refine s_nil ?_
  refine n_seq ?_
  refine w_rets ?_
  refine w_ret (rs1 (rr_t gt0)) ?_
  refine rt (by first | rfl | (simp only [AV.lt, AV.ltL, Ent.lt, List.all_cons, List.all_nil, Bool.and_true, Bool.and_self, decide_true]; done) | (simp [AV.lt, AV.ltL, Ent.lt, *]; done) | (simp [AV.lt, AV.ltL, Ent.lt, *]; omega)) ?_
  rfl
theorem last_a {h : AH} : ACalls Try.prog 89 [] h fun x h' => h' = h ∧ x = .ret (iv 2932896) := by
  refine i89 ?_
  intro N hn hlt hlA hbd
  try simp only [AV.bdL, AV.bd, and_true, true_and] at hbd
  refine w_seq ?_
  refine w_reg ?_
  refine s_val rfl (v_mv lki) pt0 ?_
  refine s_nil ?_
  refine n_seq ?_
  refine w_seq ?_
  refine w_reg ?_
  refine s_callp (mp1 lki mp0) (before_a (by omega) (by omega)) pt1 ?_
  refine s_callp mp0 (epoch_a) pt2 ?_
  refine s_val rfl (v_sub lk1 lk2 (by rw [bef_10000]; omega) (by rw [bef_10000]; omega)) pt3 ?_
  refine s_val rfl (v_sub lk3 lki (by rw [bef_10000]; omega) (by rw [bef_10000]; omega)) pt4 ?_
  refine s_val rfl (v_mv lk4) pt0 ?_
  refine s_nil ?_
  refine n_seq ?_
  refine w_rets ?_
  refine w_ret (rs1 (rr_t gt0)) ?_
  refine rt (by first | rfl | (simp only [AV.lt, AV.ltL, Ent.lt, List.all_cons, List.all_nil, Bool.and_true, Bool.and_self, decide_true]; done) | (simp [AV.lt, AV.ltL, Ent.lt, *]; done) | (simp [AV.lt, AV.ltL, Ent.lt, *]; omega)) ?_
  rw [bef_10000]; rfl
theorem least_a {h : AH} : ACalls Try.prog 60 [] h fun x h' => h' = h ∧ x = .ret (iv (-62135596800)) := by
  refine i60 ?_
  intro N hn hlt hlA hbd
  try simp only [AV.bdL, AV.bd, and_true, true_and] at hbd
  refine w_seq ?_
  refine w_reg ?_
  refine s_val rfl (v_mv lki) pt0 ?_
  refine s_nil ?_
  refine n_seq ?_
  refine w_seq ?_
  refine w_reg ?_
  refine s_callp mp0 (first_a) pt1 ?_
  refine s_val rfl (v_mul lk1 lki (by omega) (by omega)) pt2 ?_
  refine s_val rfl (v_mv lk2) pt0 ?_
  refine s_nil ?_
  refine n_seq ?_
  refine w_rets ?_
  refine w_ret (rs1 (rr_t gt0)) ?_
  refine rt (by first | rfl | (simp only [AV.lt, AV.ltL, Ent.lt, List.all_cons, List.all_nil, Bool.and_true, Bool.and_self, decide_true]; done) | (simp [AV.lt, AV.ltL, Ent.lt, *]; done) | (simp [AV.lt, AV.ltL, Ent.lt, *]; omega)) ?_
  rfl
theorem most_a {h : AH} : ACalls Try.prog 79 [] h fun x h' => h' = h ∧ x = .ret (iv 253402300799) := by
  refine i79 ?_
  intro N hn hlt hlA hbd
  try simp only [AV.bdL, AV.bd, and_true, true_and] at hbd
  refine w_seq ?_
  refine w_reg ?_
  refine s_val rfl (v_mv lki) pt0 ?_
  refine s_nil ?_
  refine n_seq ?_
  refine w_seq ?_
  refine w_reg ?_
  refine s_callp mp0 (last_a) pt1 ?_
  refine s_val rfl (v_add lk1 lki (by omega) (by omega)) pt2 ?_
  refine s_val rfl (v_mul lk2 lki (by omega) (by omega)) pt3 ?_
  refine s_val rfl (v_sub lk3 lki (by omega) (by omega)) pt4 ?_
  refine s_val rfl (v_mv lk4) pt0 ?_
  refine s_nil ?_
  refine n_seq ?_
  refine w_rets ?_
  refine w_ret (rs1 (rr_t gt0)) ?_
  refine rt (by first | rfl | (simp only [AV.lt, AV.ltL, Ent.lt, List.all_cons, List.all_nil, Bool.and_true, Bool.and_self, decide_true]; done) | (simp [AV.lt, AV.ltL, Ent.lt, *]; done) | (simp [AV.lt, AV.ltL, Ent.lt, *]; omega)) ?_
  rfl
theorem time_a {n : Int} {h : AH} : ACalls Try.prog 61 [iv n] h fun x h' => h' = h ∧ x = .ret (bv (timeB n)) := by
  refine i61 ?_
  intro N hn hlt hlA hbd
  try simp only [AV.bdL, AV.bd, and_true, true_and] at hbd
  refine w_seq ?_
  refine w_reg ?_
  refine s_val rfl (v_mv lkb) pt2 ?_
  refine s_nil ?_
  refine n_seq ?_
  refine w_seq ?_
  refine w_reg ?_
  refine s_val rfl (v_mv lk0) pt3 ?_
  refine s_callp mp0 (least_a) pt4 ?_
  refine s_callp mp0 (most_a) pt5 ?_
  refine s_callp (mp1 lk3 (mp1 lk4 (mp1 lk5 mp0))) (within_a) pt6 ?_
  refine s_val rfl (v_mv lk6) pt2 ?_
  refine s_nil ?_
  refine n_seq ?_
  refine w_rets ?_
  refine w_ret (rs1 (rr_t gt2)) ?_
  refine rt (by first | rfl | (simp only [AV.lt, AV.ltL, Ent.lt, List.all_cons, List.all_nil, Bool.and_true, Bool.and_self, decide_true]; done) | (simp [AV.lt, AV.ltL, Ent.lt, *]; done) | (simp [AV.lt, AV.ltL, Ent.lt, *]; omega)) ?_
  rfl
theorem local_a {a b : Int} {s : ByteArray} {h : AH} (hs : s.size ≤ maxLen := by first | assumption | omega) : ACalls Try.prog 59 [.agg [iv a, iv b, sv s]] h fun x h' => h' = h ∧ x = .ret (iv (locE (a, b, s))) := by
  refine i59 ?_
  intro N hn hlt hlA hbd
  try simp only [AV.bdL, AV.bd, and_true, true_and] at hbd
  refine w_seq ?_
  refine w_reg ?_
  refine s_eff rfl rfl (e_box (cvl lk0 rfl) rfl (hl0 hn) ha0) pt1 ?_
  refine s_val rfl (v_mv lki) pt2 ?_
  refine s_nil ?_
  refine n_seq ?_
  refine w_seq ?_
  refine w_block ?_
  refine w_seq ?_
  refine w_reg ?_
  refine s_val rfl (v_fap0 lk1) pt4 ?_
  refine s_val rfl (v_loadp lk4 (hga hn rfl) gt0) pt5 ?_
  refine s_callp (mp1 lk5 (mp1 lki (mp1 lki mp0))) (within_a) pt6 ?_
  refine s_val rfl (v_notB lk6) pt7 ?_
  refine s_val rfl (v_mv lk7) pt8 ?_
  refine s_splitB gt8 pt8 pt8 (fun hg8 => ?_) (fun hg8 => ?_)
  · skip
    refine s_no gt8 pt9 ?_
    refine s_no gt8 pt10 ?_
    refine s_no gt8 pt11 ?_
    refine s_no gt8 pt12 ?_
    refine s_val rfl (v_pickT lk8 lkb) pt13 ?_
    refine s_val rfl (v_mv lk13) pt3 ?_
    refine s_nil ?_
    refine n_seq ?_
    refine w_condT lk3 ?_
    refine w_seq ?_
    refine w_reg ?_
    refine s_val rfl (v_mv lki) pt2 ?_
    refine s_nil ?_
    refine n_seq ?_
    refine w_rets ?_
    refine r_blk ?_
    refine r_thn ?_
    refine w_ret (rs1 (rr_t gt2)) ?_
    refine rt (by first | rfl | (simp only [AV.lt, AV.ltL, Ent.lt, List.all_cons, List.all_nil, Bool.and_true, Bool.and_self, decide_true]; done) | (simp [AV.lt, AV.ltL, Ent.lt, *]; done) | (simp [AV.lt, AV.ltL, Ent.lt, *]; omega)) ?_
    refine ivx ?_; unfold locE; simp_all [wi]; try omega
  · skip
    refine s_do gt8 ?_
    refine s_val rfl (v_fap0 lk1) pt9 ?_
    refine s_do gt8 ?_
    refine s_val rfl (v_loadp lk9 (hga hn rfl) gt1) pt10 ?_
    refine s_do gt8 ?_
    refine s_callp (mp1 lk10 (mp1 lki (mp1 lki mp0))) (within_a) pt11 ?_
    refine s_do gt8 ?_
    refine s_val rfl (v_notB lk11) pt12 ?_
    refine s_val rfl (v_pickF lk8 lk12) pt13 ?_
    refine s_val rfl (v_mv lk13) pt3 ?_
    refine s_nil ?_
    refine n_seq ?_
    refine w_condB lk3 (fun hc1 => ?_) (fun hc1 => ?_)
    · skip
      refine w_seq ?_
      refine w_reg ?_
      refine s_val rfl (v_mv lki) pt2 ?_
      refine s_nil ?_
      refine n_seq ?_
      refine w_rets ?_
      refine r_blk ?_
      refine r_thn ?_
      refine w_ret (rs1 (rr_t gt2)) ?_
      refine rt (by first | rfl | (simp only [AV.lt, AV.ltL, Ent.lt, List.all_cons, List.all_nil, Bool.and_true, Bool.and_self, decide_true]; done) | (simp [AV.lt, AV.ltL, Ent.lt, *]; done) | (simp [AV.lt, AV.ltL, Ent.lt, *]; omega)) ?_
      refine ivx ?_; unfold locE; simp_all [wi]; try omega
    · skip
      refine w_seq ?_
      refine w_reg ?_
      refine s_val rfl (v_fap0 lk1) pt15 ?_
      refine s_val rfl (v_loadp lk15 (hga hn rfl) gt2) pt16 ?_
      refine s_val rfl (v_eqlE lk16) pt17 ?_
      refine s_val rfl (v_mv lk17) pt18 ?_
      first | refine s_splitP gt18 pt18 pt18 (fun hg18 => ?_) (fun hg18 => ?_) | refine s_splitB gt18 pt18 pt18 (fun hg18 => ?_) (fun hg18 => ?_)
      · skip
        refine s_no gt18 pt19 ?_
        refine s_no gt18 pt20 ?_
        refine s_no gt18 pt21 ?_
        refine s_no gt18 pt22 ?_
        refine s_val rfl (v_pickT lk18 lkb) pt23 ?_
        refine s_val rfl (v_mv lk23) pt24 ?_
        refine s_no gt24 pt25 ?_
        refine s_no gt24 pt26 ?_
        refine s_no gt24 pt27 ?_
        refine s_no gt24 pt28 ?_
        refine s_val rfl (v_pickT lk24 lkb) pt29 ?_
        refine s_val rfl (v_mv lk29) pt14 ?_
        refine s_nil ?_
        refine n_seq ?_
        refine w_condT lk14 ?_
        refine w_seq ?_
        refine w_reg ?_
        refine s_val rfl (v_mv lki) pt2 ?_
        refine s_nil ?_
        refine n_seq ?_
        refine w_rets ?_
        refine r_blk ?_
        refine r_thn ?_
        refine w_ret (rs1 (rr_t gt2)) ?_
        refine rt (by first | rfl | (simp only [AV.lt, AV.ltL, Ent.lt, List.all_cons, List.all_nil, Bool.and_true, Bool.and_self, decide_true]; done) | (simp [AV.lt, AV.ltL, Ent.lt, *]; done) | (simp [AV.lt, AV.ltL, Ent.lt, *]; omega)) ?_
        refine ivx ?_; unfold locE; simp_all [wi]; try omega
      · skip
        refine s_do gt18 ?_
        refine s_val rfl (v_fap0 lk1) pt19 ?_
        refine s_do gt18 ?_
        refine s_val rfl (v_loadp lk19 (hga hn rfl) gt2) pt20 ?_
        refine s_do gt18 ?_
        refine s_val rfl (v_lenS lk20) pt21 ?_
        refine s_do gt18 ?_
        refine s_val rfl (v_gtr lk21 lki) pt22 ?_
        refine s_val rfl (v_pickF lk18 lk22) pt23 ?_
        refine s_val rfl (v_mv lk23) pt24 ?_
        first | refine s_splitP gt24 pt24 pt24 (fun hg24 => ?_) (fun hg24 => ?_) | refine s_splitB gt24 pt24 pt24 (fun hg24 => ?_) (fun hg24 => ?_)
        · skip
          refine s_no gt24 pt25 ?_
          refine s_no gt24 pt26 ?_
          refine s_no gt24 pt27 ?_
          refine s_no gt24 pt28 ?_
          refine s_val rfl (v_pickT lk24 lkb) pt29 ?_
          refine s_val rfl (v_mv lk29) pt14 ?_
          refine s_nil ?_
          refine n_seq ?_
          refine w_condT lk14 ?_
          refine w_seq ?_
          refine w_reg ?_
          refine s_val rfl (v_mv lki) pt2 ?_
          refine s_nil ?_
          refine n_seq ?_
          refine w_rets ?_
          refine r_blk ?_
          refine r_thn ?_
          refine w_ret (rs1 (rr_t gt2)) ?_
          refine rt (by first | rfl | (simp only [AV.lt, AV.ltL, Ent.lt, List.all_cons, List.all_nil, Bool.and_true, Bool.and_self, decide_true]; done) | (simp [AV.lt, AV.ltL, Ent.lt, *]; done) | (simp [AV.lt, AV.ltL, Ent.lt, *]; omega)) ?_
          refine ivx ?_; unfold locE; simp_all [wi]; try omega
        · skip
          refine s_do gt24 ?_
          refine s_val rfl (v_fap0 lk1) pt25 ?_
          refine s_do gt24 ?_
          refine s_val rfl (v_loadp lk25 (hga hn rfl) gt2) pt26 ?_
          refine s_do gt24 ?_
          refine s_callp (mp1 lk26 mp0) (plain_a) pt27 ?_
          refine s_do gt24 ?_
          refine s_val rfl (v_notB lk27) pt28 ?_
          refine s_val rfl (v_pickF lk24 lk28) pt29 ?_
          refine s_val rfl (v_mv lk29) pt14 ?_
          refine s_nil ?_
          refine n_seq ?_
          refine w_condB lk14 (fun hc2 => ?_) (fun hc2 => ?_)
          · skip
            refine w_seq ?_
            refine w_reg ?_
            refine s_val rfl (v_mv lki) pt2 ?_
            refine s_nil ?_
            refine n_seq ?_
            refine w_rets ?_
            refine r_blk ?_
            refine r_thn ?_
            refine w_ret (rs1 (rr_t gt2)) ?_
            refine rt (by first | rfl | (simp only [AV.lt, AV.ltL, Ent.lt, List.all_cons, List.all_nil, Bool.and_true, Bool.and_self, decide_true]; done) | (simp [AV.lt, AV.ltL, Ent.lt, *]; done) | (simp [AV.lt, AV.ltL, Ent.lt, *]; omega)) ?_
            refine ivx ?_; unfold locE; simp_all [wi]; try omega
          · skip
            refine w_skip ?_
            refine n_blk ?_
            refine n_seq ?_
            refine w_seq ?_
            refine w_reg ?_
            refine s_val rfl (v_mv lki) pt2 ?_
            refine s_nil ?_
            refine n_seq ?_
            refine w_rets ?_
            refine w_ret (rs1 (rr_t gt2)) ?_
            refine rt (by first | rfl | (simp only [AV.lt, AV.ltL, Ent.lt, List.all_cons, List.all_nil, Bool.and_true, Bool.and_self, decide_true]; done) | (simp [AV.lt, AV.ltL, Ent.lt, *]; done) | (simp [AV.lt, AV.ltL, Ent.lt, *]; omega)) ?_
            refine ivx ?_; unfold locE; simp_all [wi]; try omega
end Go.Proofs.Ytmbebimingkfeaa
