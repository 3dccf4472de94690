/-
  Contracts on plain data: the reference's Bytes and EncodeOf. Conditions: those that each theorem names.
-/
import Derived.Test.YtmbebimingkfeaaWParse
import Derived.Test.YtmbebimingkfeaaARefA
set_option linter.unusedVariables false
set_option linter.unusedSimpArgs false
set_option maxRecDepth 100000
namespace Go.Proofs.Ytmbebimingkfeaa
open Go.Ab Civ
section
theorem WRefA_Bytes_11 {τ : Operand → AV} {y0 : Operand} {x0_0 : AV} (h0 : cellsV (τ y0) = some [x0_0]) (l0 : [x0_0].all leaf = true) : fillAV τ [(0, 1, y0)] [(.v (.int .u8 0))] = some [x0_0] := by
  simp only [fillAV, h0, l0]
  rfl
theorem WRefA_tk0_3 {a0 a1 a2 : AV} {l : List AV} : ((a0 :: a1 :: a2 :: l).drop 0).take 3 = [a0, a1, a2] := rfl
theorem WRefA_EncodeOf_5 {τ : Operand → AV} {y0 : Operand} {x0_0 x0_1 x0_2 : AV} (h0 : cellsV (τ y0) = some [x0_0, x0_1, x0_2]) (l0 : [x0_0, x0_1, x0_2].all leaf = true) : fillAV τ [(0, 3, y0)] [(.v (.int .i64 0)), (.v (.int .i64 0)), (.v (.string ⟨#[]⟩))] = some [x0_0, x0_1, x0_2] := by
  simp only [fillAV, h0, l0]
  rfl
theorem WRefA_tk_3 {a0 a1 a2 : AV} {l : List AV} : (a0 :: a1 :: a2 :: l).take 3 = [a0, a1, a2] := rfl
theorem WRefA_eq_iis {a0 b0 : Int} {a1 b1 : Int} {a2 b2 : ByteArray} : eqCells [.int, .int, .str] [iv a0, iv a1, sv a2] [iv b0, iv b1, sv b2] = some (decide (a0 = b0 ∧ a1 = b1 ∧ a2 = b2)) := by
  simp only [eqCells, eqLeaf, if_true, bytes_beq, Option.some.injEq]
  simp only [Bool.decide_and, Bool.and_true]
  try (congr 1 <;> simp)
  try rfl
theorem WRefA_EncodeOf_46 {τ : Operand → AV} {y0 : Operand} {x0_0 x0_1 x0_2 : AV} (h0 : cellsV (τ y0) = some [x0_0, x0_1, x0_2]) (l0 : [x0_0, x0_1, x0_2].all leaf = true) : fillAV τ [(0, 3, y0)] [(.v (.int .i64 0)), (.v (.int .i64 0)), (.v (.string ⟨#[]⟩))] = some [x0_0, x0_1, x0_2] := by
  simp only [fillAV, h0, l0]
  rfl
end
/-- datelineref.Bytes -/
def c47 : AC := (.seq (.reg [⟨(some 4), none, (.mv (.const (.string ⟨#[]⟩)))⟩]) (.seq (.reg [⟨(some 5), none, (.mv (.const (.string ⟨#[]⟩)))⟩]) (.seq (.seq (.reg [⟨(some 6), none, (.mv (.const (.int .i64 0)))⟩]) (.block 0 (.loop (.seq (.seq (.reg [⟨(some 7), none, (.mv (.tmp 6))⟩, ⟨(some 8), none, (.mv (.tmp 1))⟩, ⟨(some 9), none, (.bin .lss (.tmp 7) (.tmp 8))⟩]) (.cond (.tmp 9) .skip (.exit 0))) (.seq (.block 1 (.seq (.reg [⟨(some 12), none, (.mv (.tmp 5))⟩, ⟨(some 13), none, (.mv (.tmp 0))⟩, ⟨(some 14), none, (.bin .rem (.tmp 13) (.const (.int .i64 256)))⟩, ⟨(some 15), none, (.cvi .u8 (.tmp 14))⟩, ⟨(some 16), none, (.lit 5 1 1 [(.v (.int .u8 0))] [(0, (1, (.tmp 15)))])⟩, ⟨(some 17), none, (.b2s (.tmp 16))⟩, ⟨(some 18), none, (.bin .add (.tmp 12) (.tmp 17))⟩, ⟨(some 5), none, (.mv (.tmp 18))⟩]) (.reg [⟨(some 19), none, (.mv (.tmp 0))⟩, ⟨(some 20), none, (.bin .quo (.tmp 19) (.const (.int .i64 256)))⟩, ⟨(some 0), none, (.mv (.tmp 20))⟩]))) (.reg [⟨(some 10), none, (.mv (.tmp 6))⟩, ⟨(some 11), none, (.bin .add (.tmp 10) (.const (.int .i64 1)))⟩, ⟨(some 6), none, (.mv (.tmp 11))⟩])))))) (.seq (.reg [⟨(some 21), none, (.mv (.tmp 5))⟩, ⟨(some 4), none, (.mv (.tmp 21))⟩]) .ret))))
theorem k47 : compF Try.prog 47 = some ⟨c47, [(.tmp 4)], 22⟩ := by kernel_rfl
theorem i47 {a0 a1 : AV} {h : AH} {R : AE → Prop} (hw : ∀ n, h.length = n → (∀ e ∈ h, e.lt n = true) → AV.ltL n [a0, a1] = true → AV.bdL [a0, a1] → aw Try.prog n c47 (retA [(.tmp 4)] fun x h' => ∃ z, h' = h ++ z ∧ x.lt n = true ∧ R x) [a0, a1, .any, .any, .any, .any, .any, .any, .any, .any, .any, .any, .any, .any, .any, .any, .any, .any, .any, .any, .any, .any] (h ++ [])) : ACalls Try.prog 47 [a0, a1] h fun x h' => h' = h ∧ R x := ACalls.into k47 rfl hw
theorem w47 {a0 a1 : AV} {h : AH} {res : AV} (hw : ∀ n, h.length = n → (∀ e ∈ h, e.lt n = true) → AV.ltL n [a0, a1] = true → AV.bdL [a0, a1] → aw Try.prog n c47 (retA [(.tmp 4)] fun x h' => ∃ z, h' = h ++ z ∧ x.lt n = true ∧ ∃ c, x = .ret c ∧ Wk c res) [a0, a1, .any, .any, .any, .any, .any, .any, .any, .any, .any, .any, .any, .any, .any, .any, .any, .any, .any, .any, .any, .any] (h ++ [])) : ACalls Try.prog 47 [a0, a1] h fun x h' => h' = h ∧ x = .ret res := ACalls.weak (ACalls.into k47 rfl hw)
theorem n47 {a0 a1 : AV} {h : AH} {R : AE → AH → Prop} (hw : ∀ n, h.length = n → (∀ e ∈ h, e.lt n = true) → AV.ltL n [a0, a1] = true → AV.bdL [a0, a1] → aw Try.prog n c47 (retA [(.tmp 4)] R) [a0, a1, .any, .any, .any, .any, .any, .any, .any, .any, .any, .any, .any, .any, .any, .any, .any, .any, .any, .any, .any, .any] (h ++ [])) : ACalls Try.prog 47 [a0, a1] h R := ACalls.intoN k47 rfl hw
theorem j47 {a0 a1 : AV} {h : AH} {R : AE → AH → Prop} (hw : ∀ n, h.length = n → (∀ e ∈ h, e.lt n = true) → AV.ltL n [a0, a1] = true → AV.bdL [a0, a1] → aw Try.prog n c47 (retA [(.tmp 4)] fun x h' => ∃ y z, h' = y ++ z ∧ y.length = n ∧ (∀ e ∈ y, e.lt n = true) ∧ x.lt n = true ∧ R x y) [a0, a1, .any, .any, .any, .any, .any, .any, .any, .any, .any, .any, .any, .any, .any, .any, .any, .any, .any, .any, .any, .any] (h ++ [])) : ACalls Try.prog 47 [a0, a1] h R := ACalls.intoG k47 rfl hw
/-- datelineref.EncodeOf -/
def c23 : AC := (.seq (.reg [⟨(some 1), none, (.box 26 4 (.tmp 0))⟩, ⟨(some 2), none, (.mv (.const (.string ⟨#[]⟩)))⟩]) (.seq (.reg [⟨(some 9), none, (.fa 0 (.tmp 1))⟩, ⟨(some 10), none, (.load true 3 (.tmp 9))⟩, ⟨(some 11), none, (.lit 23 3 1 [(.v (.int .i64 0)), (.v (.int .i64 0)), (.v (.string ⟨#[]⟩))] [(0, (3, (.tmp 10)))])⟩, ⟨(some 3), none, (.mv (.tmp 11))⟩]) (.seq (.reg [⟨(some 4), none, (.mv (.const (.string ⟨#[]⟩)))⟩]) (.seq (.seq (.reg [⟨(some 5), none, (.mv (.const (.int .i64 0)))⟩]) (.block 0 (.loop (.seq (.seq (.reg [⟨(some 12), none, (.mv (.tmp 5))⟩, ⟨(some 13), none, (.fa 3 (.tmp 1))⟩, ⟨(some 14), none, (.load false 1 (.tmp 13))⟩, ⟨(some 15), none, (.len false (.tmp 14))⟩, ⟨(some 16), none, (.bin .lss (.tmp 12) (.tmp 15))⟩]) (.cond (.tmp 16) .skip (.exit 0))) (.seq (.block 1 (.seq (.reg [⟨(some 6), none, (.mv (.const (.int .i64 0)))⟩]) (.seq (.block 2 (.loop (.seq (.seq (.drw [⟨(some 19), none, (.mv (.tmp 6))⟩, ⟨(some 20), none, (.mv (.tmp 3))⟩, ⟨(some 21), none, (.len false (.tmp 20))⟩, ⟨(some 22), none, (.bin .lss (.tmp 19) (.tmp 21))⟩, ⟨(some 23), none, (.mv (.tmp 22))⟩, ⟨(some 24), (some (23, true)), (.mv (.tmp 3))⟩, ⟨(some 25), (some (23, true)), (.mv (.tmp 6))⟩, ⟨(some 26), (some (23, true)), (.ia 3 (.tmp 24) (.tmp 25))⟩, ⟨(some 27), (some (23, true)), (.load true 3 (.tmp 26))⟩, ⟨(some 28), (some (23, true)), (.fa 3 (.tmp 1))⟩, ⟨(some 29), (some (23, true)), (.load false 1 (.tmp 28))⟩, ⟨(some 30), (some (23, true)), (.mv (.tmp 5))⟩, ⟨(some 31), (some (23, true)), (.ia 4 (.tmp 29) (.tmp 30))⟩, ⟨(some 32), (some (23, true)), (.fa 1 (.tmp 31))⟩, ⟨(some 33), (some (23, true)), (.load true 3 (.tmp 32))⟩, ⟨(some 34), (some (23, true)), (.eqs true [.int, .int, .str] (.tmp 27) (.tmp 33))⟩, ⟨(some 35), none, (.pick (.tmp 23) (.tmp 34) (.const (.bool false)))⟩] [] []) (.cond (.tmp 35) .skip (.exit 2))) (.block 3 (.reg [⟨(some 36), none, (.mv (.tmp 6))⟩, ⟨(some 37), none, (.bin .add (.tmp 36) (.const (.int .i64 1)))⟩, ⟨(some 6), none, (.mv (.tmp 37))⟩]))))) (.seq (.seq (.reg [⟨(some 38), none, (.mv (.tmp 6))⟩, ⟨(some 39), none, (.mv (.tmp 3))⟩, ⟨(some 40), none, (.len false (.tmp 39))⟩, ⟨(some 41), none, (.bin .eql (.tmp 38) (.tmp 40))⟩]) (.cond (.tmp 41) (.reg [⟨(some 42), none, (.mv (.tmp 3))⟩, ⟨(some 43), none, (.fa 3 (.tmp 1))⟩, ⟨(some 44), none, (.load false 1 (.tmp 43))⟩, ⟨(some 45), none, (.mv (.tmp 5))⟩, ⟨(some 46), none, (.ia 4 (.tmp 44) (.tmp 45))⟩, ⟨(some 47), none, (.fa 1 (.tmp 46))⟩, ⟨(some 48), none, (.load true 3 (.tmp 47))⟩, ⟨(some 49), none, (.lit 23 3 1 [(.v (.int .i64 0)), (.v (.int .i64 0)), (.v (.string ⟨#[]⟩))] [(0, (3, (.tmp 48)))])⟩, ⟨(some 50), none, (.app 23 3 32 (.tmp 42) (.tmp 49))⟩, ⟨(some 3), none, (.mv (.tmp 50))⟩]) .skip)) (.reg [⟨(some 51), none, (.mv (.tmp 4))⟩, ⟨(some 52), none, (.fa 3 (.tmp 1))⟩, ⟨(some 53), none, (.load false 1 (.tmp 52))⟩, ⟨(some 54), none, (.mv (.tmp 5))⟩, ⟨(some 55), none, (.ia 4 (.tmp 53) (.tmp 54))⟩, ⟨(some 56), none, (.fa 0 (.tmp 55))⟩, ⟨(some 57), none, (.load false 1 (.tmp 56))⟩, ⟨(some 58), none, (.bin .add (.tmp 57) (.const (.int .i64 274877906944)))⟩, ⟨(some 59), none, (.call (.func 47) [(.tmp 58), (.const (.int .i64 5))])⟩, ⟨(some 60), none, (.mv (.tmp 6))⟩, ⟨(some 61), none, (.call (.func 47) [(.tmp 60), (.const (.int .i64 2))])⟩, ⟨(some 62), none, (.bin .add (.tmp 59) (.tmp 61))⟩, ⟨(some 63), none, (.bin .add (.tmp 51) (.tmp 62))⟩, ⟨(some 4), none, (.mv (.tmp 63))⟩]))))) (.reg [⟨(some 17), none, (.mv (.tmp 5))⟩, ⟨(some 18), none, (.bin .add (.tmp 17) (.const (.int .i64 1)))⟩, ⟨(some 5), none, (.mv (.tmp 18))⟩])))))) (.seq (.reg [⟨(some 64), none, (.mv (.tmp 3))⟩, ⟨(some 65), none, (.len false (.tmp 64))⟩, ⟨(some 66), none, (.call (.func 47) [(.tmp 65), (.const (.int .i64 2))])⟩, ⟨(some 7), none, (.mv (.tmp 66))⟩]) (.seq (.seq (.reg [⟨(some 8), none, (.mv (.const (.int .i64 0)))⟩]) (.block 4 (.loop (.seq (.seq (.reg [⟨(some 67), none, (.mv (.tmp 8))⟩, ⟨(some 68), none, (.mv (.tmp 3))⟩, ⟨(some 69), none, (.len false (.tmp 68))⟩, ⟨(some 70), none, (.bin .lss (.tmp 67) (.tmp 69))⟩]) (.cond (.tmp 70) .skip (.exit 4))) (.seq (.block 5 (.drw [⟨(some 73), none, (.mv (.tmp 7))⟩, ⟨(some 74), none, (.mv (.tmp 3))⟩, ⟨(some 75), none, (.mv (.tmp 8))⟩, ⟨(some 76), none, (.ia 3 (.tmp 74) (.tmp 75))⟩, ⟨(some 77), none, (.fa 0 (.tmp 76))⟩, ⟨(some 78), none, (.load false 1 (.tmp 77))⟩, ⟨(some 79), none, (.bin .add (.tmp 78) (.const (.int .i64 100000)))⟩, ⟨(some 80), none, (.call (.func 47) [(.tmp 79), (.const (.int .i64 3))])⟩, ⟨(some 81), none, (.mv (.tmp 3))⟩, ⟨(some 82), none, (.mv (.tmp 8))⟩, ⟨(some 83), none, (.ia 3 (.tmp 81) (.tmp 82))⟩, ⟨(some 84), none, (.fa 1 (.tmp 83))⟩, ⟨(some 85), none, (.load false 1 (.tmp 84))⟩, ⟨(some 86), none, (.call (.func 47) [(.tmp 85), (.const (.int .i64 2))])⟩, ⟨(some 87), none, (.bin .add (.tmp 80) (.tmp 86))⟩, ⟨(some 88), none, (.mv (.tmp 3))⟩, ⟨(some 89), none, (.mv (.tmp 8))⟩, ⟨(some 90), none, (.ia 3 (.tmp 88) (.tmp 89))⟩, ⟨(some 91), none, (.fa 2 (.tmp 90))⟩, ⟨(some 92), none, (.load false 1 (.tmp 91))⟩, ⟨(some 93), none, (.len true (.tmp 92))⟩, ⟨(some 94), none, (.call (.func 47) [(.tmp 93), (.const (.int .i64 1))])⟩, ⟨(some 95), none, (.bin .add (.tmp 87) (.tmp 94))⟩, ⟨(some 96), none, (.mv (.tmp 3))⟩, ⟨(some 97), none, (.mv (.tmp 8))⟩, ⟨(some 98), none, (.ia 3 (.tmp 96) (.tmp 97))⟩, ⟨(some 99), none, (.fa 2 (.tmp 98))⟩, ⟨(some 100), none, (.load false 1 (.tmp 99))⟩, ⟨(some 101), none, (.bin .add (.tmp 95) (.tmp 100))⟩, ⟨(some 102), none, (.bin .add (.tmp 73) (.tmp 101))⟩, ⟨(some 7), none, (.mv (.tmp 102))⟩] [] [])) (.reg [⟨(some 71), none, (.mv (.tmp 8))⟩, ⟨(some 72), none, (.bin .add (.tmp 71) (.const (.int .i64 1)))⟩, ⟨(some 8), none, (.mv (.tmp 72))⟩])))))) (.seq (.drw [⟨(some 103), none, (.mv (.tmp 7))⟩, ⟨(some 104), none, (.call (.func 47) [(.const (.int .i64 0)), (.const (.int .i64 2))])⟩, ⟨(some 105), none, (.bin .add (.tmp 103) (.tmp 104))⟩, ⟨(some 106), none, (.fa 3 (.tmp 1))⟩, ⟨(some 107), none, (.load false 1 (.tmp 106))⟩, ⟨(some 108), none, (.len false (.tmp 107))⟩, ⟨(some 109), none, (.call (.func 47) [(.tmp 108), (.const (.int .i64 2))])⟩, ⟨(some 110), none, (.bin .add (.tmp 105) (.tmp 109))⟩, ⟨(some 111), none, (.mv (.tmp 4))⟩, ⟨(some 112), none, (.bin .add (.tmp 110) (.tmp 111))⟩, ⟨(some 2), none, (.mv (.tmp 112))⟩] [] []) .ret)))))))
theorem k23 : compF Try.prog 23 = some ⟨c23, [(.tmp 2)], 113⟩ := by kernel_rfl
theorem i23 {a0 : AV} {h : AH} {R : AE → Prop} (hw : ∀ n, h.length = n → (∀ e ∈ h, e.lt n = true) → AV.ltL n [a0] = true → AV.bdL [a0] → aw Try.prog n c23 (retA [(.tmp 2)] fun x h' => ∃ z, h' = h ++ z ∧ x.lt n = true ∧ R x) [a0, .any, .any, .any, .any, .any, .any, .any, .any, .any, .any, .any, .any, .any, .any, .any, .any, .any, .any, .any, .any, .any, .any, .any, .any, .any, .any, .any, .any, .any, .any, .any, .any, .any, .any, .any, .any, .any, .any, .any, .any, .any, .any, .any, .any, .any, .any, .any, .any, .any, .any, .any, .any, .any, .any, .any, .any, .any, .any, .any, .any, .any, .any, .any, .any, .any, .any, .any, .any, .any, .any, .any, .any, .any, .any, .any, .any, .any, .any, .any, .any, .any, .any, .any, .any, .any, .any, .any, .any, .any, .any, .any, .any, .any, .any, .any, .any, .any, .any, .any, .any, .any, .any, .any, .any, .any, .any, .any, .any, .any, .any, .any, .any] (h ++ [])) : ACalls Try.prog 23 [a0] h fun x h' => h' = h ∧ R x := ACalls.into k23 rfl hw
theorem w23 {a0 : AV} {h : AH} {res : AV} (hw : ∀ n, h.length = n → (∀ e ∈ h, e.lt n = true) → AV.ltL n [a0] = true → AV.bdL [a0] → aw Try.prog n c23 (retA [(.tmp 2)] fun x h' => ∃ z, h' = h ++ z ∧ x.lt n = true ∧ ∃ c, x = .ret c ∧ Wk c res) [a0, .any, .any, .any, .any, .any, .any, .any, .any, .any, .any, .any, .any, .any, .any, .any, .any, .any, .any, .any, .any, .any, .any, .any, .any, .any, .any, .any, .any, .any, .any, .any, .any, .any, .any, .any, .any, .any, .any, .any, .any, .any, .any, .any, .any, .any, .any, .any, .any, .any, .any, .any, .any, .any, .any, .any, .any, .any, .any, .any, .any, .any, .any, .any, .any, .any, .any, .any, .any, .any, .any, .any, .any, .any, .any, .any, .any, .any, .any, .any, .any, .any, .any, .any, .any, .any, .any, .any, .any, .any, .any, .any, .any, .any, .any, .any, .any, .any, .any, .any, .any, .any, .any, .any, .any, .any, .any, .any, .any, .any, .any, .any, .any] (h ++ [])) : ACalls Try.prog 23 [a0] h fun x h' => h' = h ∧ x = .ret res := ACalls.weak (ACalls.into k23 rfl hw)
theorem n23 {a0 : AV} {h : AH} {R : AE → AH → Prop} (hw : ∀ n, h.length = n → (∀ e ∈ h, e.lt n = true) → AV.ltL n [a0] = true → AV.bdL [a0] → aw Try.prog n c23 (retA [(.tmp 2)] R) [a0, .any, .any, .any, .any, .any, .any, .any, .any, .any, .any, .any, .any, .any, .any, .any, .any, .any, .any, .any, .any, .any, .any, .any, .any, .any, .any, .any, .any, .any, .any, .any, .any, .any, .any, .any, .any, .any, .any, .any, .any, .any, .any, .any, .any, .any, .any, .any, .any, .any, .any, .any, .any, .any, .any, .any, .any, .any, .any, .any, .any, .any, .any, .any, .any, .any, .any, .any, .any, .any, .any, .any, .any, .any, .any, .any, .any, .any, .any, .any, .any, .any, .any, .any, .any, .any, .any, .any, .any, .any, .any, .any, .any, .any, .any, .any, .any, .any, .any, .any, .any, .any, .any, .any, .any, .any, .any, .any, .any, .any, .any, .any, .any] (h ++ [])) : ACalls Try.prog 23 [a0] h R := ACalls.intoN k23 rfl hw
theorem j23 {a0 : AV} {h : AH} {R : AE → AH → Prop} (hw : ∀ n, h.length = n → (∀ e ∈ h, e.lt n = true) → AV.ltL n [a0] = true → AV.bdL [a0] → aw Try.prog n c23 (retA [(.tmp 2)] fun x h' => ∃ y z, h' = y ++ z ∧ y.length = n ∧ (∀ e ∈ y, e.lt n = true) ∧ x.lt n = true ∧ R x y) [a0, .any, .any, .any, .any, .any, .any, .any, .any, .any, .any, .any, .any, .any, .any, .any, .any, .any, .any, .any, .any, .any, .any, .any, .any, .any, .any, .any, .any, .any, .any, .any, .any, .any, .any, .any, .any, .any, .any, .any, .any, .any, .any, .any, .any, .any, .any, .any, .any, .any, .any, .any, .any, .any, .any, .any, .any, .any, .any, .any, .any, .any, .any, .any, .any, .any, .any, .any, .any, .any, .any, .any, .any, .any, .any, .any, .any, .any, .any, .any, .any, .any, .any, .any, .any, .any, .any, .any, .any, .any, .any, .any, .any, .any, .any, .any, .any, .any, .any, .any, .any, .any, .any, .any, .any, .any, .any, .any, .any, .any, .any, .any, .any] (h ++ [])) : ACalls Try.prog 23 [a0] h R := ACalls.intoG k23 rfl hw
theorem v_addB {h : AH} {T : List AV} {x y : Operand} {M L : List UInt8} (hx : aEval T x = sb M) (hy : aEval T y = sb L) (hl : M.length + L.length ≤ 9223372036854775807) : aval h (aEval T) (.bin .add x y) = some (sb (M ++ L)) := by
  rw [v_addS hx hy (by simpa [sb_size] using hl)]
  refine congrArg some (congrArg sv ?_)
  apply ByteArray.ext
  rw [ByteArray.data_append]
  simp
theorem v_cvi8m {h : AH} {T : List AV} {x : Operand} {n : Int} {k' : IntKind} (hx : aEval T x = .v (.int k' (n % 256))) : aval h (aEval T) (.cvi .u8 x) = some (.v (.int .u8 ((UInt8.ofNat (n % 256).toNat).toNat : Int))) := by
  rw [v_cvi8 hx, Int.emod_emod_of_dvd _ (Int.dvd_refl 256)]
theorem bytesOf_a {n : Int} {k : Nat} {h : AH} (h0 : 0 ≤ n) (h1 : n ≤ 1099511627776) (hk : k ≤ 8) : ACalls Try.prog 47 [iv n, iv (k : Int)] h fun x h' => h' = h ∧ x = .ret (sb (le k n)) := by
  refine i47 ?_
  intro N hn hlt hlA hbd
  try simp only [AV.bdL, AV.bd, and_true, true_and] at hbd
  refine w_seq ?_
  refine w_reg ?_
  refine s_val rfl (v_mv lks) pt4 ?_
  refine s_nil ?_
  refine n_seq ?_
  refine w_seq ?_
  refine w_reg ?_
  refine s_val rfl (v_mv lks) pt5 ?_
  refine s_nil ?_
  refine n_seq ?_
  refine w_seq ?_
  refine w_seq ?_
  refine w_reg ?_
  refine s_val rfl (v_mv lki) pt6 ?_
  refine s_nil ?_
  refine n_seq ?_
  refine w_block ?_
  refine w_loop (ι := Nat × Int × List UInt8) (fun (x_ : Nat × Int × List UInt8) => match x_ with | ⟨i, m, M⟩ => [(0, iv m), (5, sb M), (6, iv (i : Int)), (7, .any), (8, .any), (9, .any), (10, .any), (11, .any), (12, .any), (13, .any), (14, .any), (15, .any), (16, .any), (17, .any), (18, .any), (19, .any), (20, .any)]) (fun (x_ : Nat × Int × List UInt8) => match x_ with | ⟨i, m, M⟩ => []) (fun (x_ : Nat × Int × List UInt8) => match x_ with | ⟨i, m, M⟩ => i ≤ k ∧ (0 ≤ m ∧ m ≤ 1099511627776) ∧ M.length = i ∧ le k n = M ++ le (k - i) m) (fun (x_ : Nat × Int × List UInt8) => match x_ with | ⟨i, m, M⟩ => k - i) (⟨0, n, []⟩) (by exact ⟨by omega, ⟨h0, h1⟩, rfl, by simp⟩) (by try simp only [setsT, setsE, List.set_cons_zero, List.set_cons_succ]; exact ALe.same (wk1 (by first | rfl | exact ivx (by omega) | (simp; done)) (wk1 rfl (wk1 rfl (wk1 rfl (wk1 rfl (wk1 (by first | rfl | exact ivx (by omega) | (simp; done)) (wk1 (by first | rfl | exact ivx (by omega) | (simp; done)) (wka (wka (wka (wka (wka (wka (wka (wka (wka (wka (wka (wka (wka (wka (wk1 rfl wk0)))))))))))))))))))))) rfl) ?_
  rintro ⟨i, m, M⟩ hi1
  try simp only [setsT, setsE, List.set_cons_zero, List.set_cons_succ]
  obtain ⟨hk1, hk2, hk4, hk3⟩ := hi1
  refine w_seq ?_
  refine w_seq ?_
  refine w_reg ?_
  refine s_val rfl (v_mv lk6) pt7 ?_
  refine s_val rfl (v_mv lk1) pt8 ?_
  refine s_val rfl (v_lss lk7 lk8) pt9 ?_
  refine s_nil ?_
  refine n_seq ?_
  first | refine w_cond lk9 (fun hc1 => ?_) (fun hc1 => ?_) | refine w_condB lk9 (fun hc1 => ?_) (fun hc1 => ?_)
  · skip
    refine w_skip ?_
    refine n_seq ?_
    refine w_seq ?_
    refine w_block ?_
    refine w_seq ?_
    refine w_reg ?_
    refine s_val rfl (v_mv lk5) pt12 ?_
    refine s_val rfl (v_mv lk0) pt13 ?_
    refine s_val rfl (v_rem lk13 lki (by omega) (by omega)) pt14 ?_
    refine s_val rfl (v_cvi8m lk14) pt15 ?_
    refine s_eff rfl rfl (e_lit (WRefA_Bytes_11 (cvl lk15 rfl) rfl) (hl0 hn) ha0) pt16 ?_
    refine s_val rfl (v_b2sO (M := [UInt8.ofNat (m % 256).toNat]) lk16 (hga hn rfl) rfl) pt17 ?_
    refine s_val rfl (v_addB lk12 lk17 (by simp; omega)) pt18 ?_
    refine s_val rfl (v_mv lk18) pt5 ?_
    refine s_nil ?_
    refine n_seq ?_
    refine w_reg ?_
    refine s_val rfl (v_mv lk0) pt19 ?_
    refine s_val rfl (v_quo lk19 lki (by omega) (by omega) (by omega)) pt20 ?_
    refine s_val rfl (v_mv lk20) pt0 ?_
    refine s_nil ?_
    refine n_blk ?_
    refine n_seq ?_
    refine w_reg ?_
    refine s_val rfl (v_mv lk6) pt10 ?_
    refine s_val rfl (v_add lk10 lki (by omega) (by omega)) pt11 ?_
    refine s_val rfl (v_mv lk11) pt6 ?_
    refine s_nil ?_
    refine n_thn ?_
    refine LoopTo.mk (⟨i + 1, m / 256, M ++ [UInt8.ofNat (m % 256).toNat]⟩) (by omega) (by (try dsimp only); refine ⟨by omega, by omega, by simp; omega, ?_⟩; rw [hk3, show k - i = (k - (i + 1)) + 1 by omega, le]; simp) (by (try dsimp only); (try simp only [setsT, setsE, List.set_cons_zero, List.set_cons_succ]); exact ALe.back (wk1 (by first | rfl | exact ivx (by omega) | (simp; done)) (wk1 rfl (wk1 rfl (wk1 rfl (wk1 rfl (wk1 (by first | rfl | exact ivx (by omega) | (simp; done)) (wk1 (by first | rfl | exact ivx (by omega) | (simp; done)) (wka (wka (wka (wka (wka (wka (wka (wka (wka (wka (wka (wka (wka (wka (wk1 rfl wk0)))))))))))))))))))))) (by rfl) (k := N + 0) (by simp only [List.length_cons, List.length_nil, hn]) (by omega) (by first | rfl | (simp only [AV.lt, AV.ltL, Ent.lt, List.all_cons, List.all_nil, Bool.and_true, Bool.and_self, decide_true, chg_lt, u8_lt, loc_lt, in_lt, ltL_app]; done) | (simp [AV.lt, AV.ltL, Ent.lt, chg_lt, u8_lt, loc_lt, in_lt, ltL_app, *]; done) | (simp [AV.lt, AV.ltL, Ent.lt, chg_lt, u8_lt, loc_lt, in_lt, ltL_app, *]; omega)) (ltw (by omega) hlt) (by first | rfl | (simp only [AV.lt, AV.ltL, Ent.lt, List.all_cons, List.all_nil, Bool.and_true, Bool.and_self, decide_true, chg_lt, u8_lt, loc_lt, in_lt, ltL_app]; done) | (simp [AV.lt, AV.ltL, Ent.lt, chg_lt, u8_lt, loc_lt, in_lt, ltL_app, *]; done) | (simp [AV.lt, AV.ltL, Ent.lt, chg_lt, u8_lt, loc_lt, in_lt, ltL_app, *]; omega)))
  · skip
    refine w_exit ?_
    refine x_thn ?_
    refine x_thn ?_
    refine x_blk ?_
    refine n_seq ?_
    refine w_seq ?_
    refine w_reg ?_
    refine s_val rfl (v_mv lk5) pt21 ?_
    refine s_val rfl (v_mv lk21) pt4 ?_
    refine s_nil ?_
    refine n_seq ?_
    refine w_rets ?_
    refine w_ret (rs1 (rr_t gt4)) ?_
    refine rt (by first | rfl | (simp only [AV.lt, AV.ltL, Ent.lt, List.all_cons, List.all_nil, Bool.and_true, Bool.and_self, decide_true, chg_lt, u8_lt, loc_lt, in_lt, ltL_app]; done) | (simp [AV.lt, AV.ltL, Ent.lt, chg_lt, u8_lt, loc_lt, in_lt, ltL_app, *]; done) | (simp [AV.lt, AV.ltL, Ent.lt, chg_lt, u8_lt, loc_lt, in_lt, ltL_app, *]; omega)) ?_
    have e0 : k - i = 0 := by omega
    rw [hk3, e0, le, List.append_nil]
theorem sv_sb (s : ByteArray) : sv s = sb s.data.toList := by simp
theorem v_addBS {h : AH} {T : List AV} {x y : Operand} {M : List UInt8} {s : ByteArray} (hx : aEval T x = sb M) (hy : aEval T y = sv s) (hl : M.length + s.size ≤ 9223372036854775807) : aval h (aEval T) (.bin .add x y) = some (sb (M ++ s.data.toList)) :=
  v_addB hx (hy.trans (sv_sb s)) (by simpa using hl)
theorem flat_len {K : List Loc} (hK : ∀ x ∈ K, locE x = 0) (j : Nat) : ((K.take j).flatMap encL).length ≤ 30 * K.length := by
  have h : ∀ (L : List Loc), (∀ x ∈ L, locE x = 0) → (L.flatMap encL).length ≤ 30 * L.length := by
    intro L
    induction L with
    | nil => intro _; simp
    | cons a L ih =>
      intro h
      have h1 := (locE_ok (h a (by simp))).2.2.2.1
      have h2 := ih (fun x hx => h x (by simp [hx]))
      rw [List.flatMap_cons, List.length_append, encL_len, List.length_cons]
      have : a.2.2.data.toList.length = a.2.2.size := by simp
      omega
  have h1 := h (K.take j) (fun x hx => hK x (List.mem_of_mem_take hx))
  have h2 : (K.take j).length ≤ K.length := by rw [List.length_take]; omega
  omega
theorem rencode_a {t : Tab} {full : Bool} {h : AH} (hv : checkT t = 0) :
    ACalls Try.prog 23 [.agg [iv t.1.1, iv t.1.2.1, sv t.1.2.2, .sl t.2.length 4 full (rows chgC t.2)]] h fun x h' => h' = h ∧ x = .ret (sb (enc t)) := by
  obtain ⟨hv1, hv2, hv3⟩ := checkT_all hv
  obtain ⟨hkl, hkn, _⟩ := enc_facts hv
  have hIl : (kindI t).length = t.2.length := isOf_len _ _
  have hfl : ∀ j, (((kinds t).take j).flatMap encL).length ≤ 30 * (kinds t).length := fun j => flat_len hkl j
  refine i23 ?_
  intro N hn hlt hlA hbd
  try simp only [AV.bdL, AV.bd, and_true, true_and] at hbd
  refine w_seq ?_
  refine w_reg ?_
  refine s_eff rfl rfl (e_box (cvl lk0 rfl) rfl (hl0 hn) ha0) pt1 ?_
  refine s_val rfl (v_mv lks) pt2 ?_
  refine s_nil ?_
  refine n_seq ?_
  refine w_seq ?_
  refine w_reg ?_
  refine s_val rfl (v_fap0 lk1) pt9 ?_
  refine s_val rfl (v_loadpA lk9 (hga hn rfl) WRefA_tk0_3 rfl) pt10 ?_
  refine s_eff rfl rfl (e_lit (WRefA_EncodeOf_5 (cvl lk10 rfl) rfl) (hl1 hn) ha1) pt11 ?_
  refine s_val rfl (v_mv lk11) pt3 ?_
  refine s_nil ?_
  refine n_seq ?_
  refine w_seq ?_
  refine w_reg ?_
  refine s_val rfl (v_mv lks) pt4 ?_
  refine s_nil ?_
  refine n_seq ?_
  refine w_seq ?_
  refine w_seq ?_
  refine w_reg ?_
  refine s_val rfl (v_mv lki) pt5 ?_
  refine s_nil ?_
  refine n_seq ?_
  refine w_block ?_
  refine w_loop (ι := Nat × List Loc × List Nat × Nat) (fun (x_ : Nat × List Loc × List Nat × Nat) => match x_ with | ⟨i, K, I, vk⟩ => [(3, .own (N + 1) vk K.length), (4, sb (((t.2.zip (kindI t)).take i).flatMap encC)), (5, iv (i : Int)), (6, .any), (12, .any), (13, .any), (14, .any), (15, .any), (16, .any), (17, .any), (18, .any), (19, .any), (20, .any), (21, .any), (22, .any), (23, .any), (24, .any), (25, .any), (26, .any), (27, .any), (28, .any), (29, .any), (30, .any), (31, .any), (32, .any), (33, .any), (34, .any), (35, .any), (36, .any), (37, .any), (38, .any), (39, .any), (40, .any), (41, .any), (42, .any), (43, .any), (44, .any), (45, .any), (46, .any), (47, .any), (48, .any), (49, .any), (50, .any), (51, .any), (52, .any), (53, .any), (54, .any), (55, .any), (56, .any), (57, .any), (58, .any), (59, .any), (60, .any), (61, .any), (62, .any), (63, .any)]) (fun (x_ : Nat × List Loc × List Nat × Nat) => match x_ with | ⟨i, K, I, vk⟩ => [(1, .mk vk 23 3 (rows locC K))]) (fun (x_ : Nat × List Loc × List Nat × Nat) => match x_ with | ⟨i, K, I, vk⟩ => i ≤ t.2.length ∧ I.length = i ∧ kinds t = ksOf K (t.2.drop i) ∧ kindI t = I ++ isOf K (t.2.drop i) ∧ K.length ≤ i + 1) (fun (x_ : Nat × List Loc × List Nat × Nat) => match x_ with | ⟨i, K, I, vk⟩ => t.2.length - i) (⟨0, [t.1], [], 0⟩) (by exact ⟨by omega, rfl, by simp [kinds], by simp [kindI], by simp⟩) (by try simp only [setsT, setsE, List.set_cons_zero, List.set_cons_succ]; exact ALe.same (wk1 rfl (wk1 rfl (wk1 rfl (wk1 (by first | rfl | exact ivx (by omega) | (simp; done)) (wk1 (by first | rfl | exact ivx (by omega) | (simp; done)) (wk1 (by first | rfl | exact ivx (by omega) | (simp; done)) (wka (wk1 rfl (wk1 rfl (wk1 rfl (wk1 rfl (wk1 rfl (wka (wka (wka (wka (wka (wka (wka (wka (wka (wka (wka (wka (wka (wka (wka (wka (wka (wka (wka (wka (wka (wka (wka (wka (wka (wka (wka (wka (wka (wka (wka (wka (wka (wka (wka (wka (wka (wka (wka (wka (wka (wka (wka (wka (wka (wka (wka (wka (wka (wka (wka (wka (wk1 rfl (wk1 rfl (wk1 rfl (wk1 rfl (wk1 rfl (wk1 rfl (wk1 rfl (wk1 rfl (wk1 rfl (wk1 rfl (wk1 rfl (wk1 rfl (wk1 rfl (wk1 rfl (wk1 rfl (wk1 rfl (wk1 rfl (wk1 rfl (wk1 rfl (wk1 rfl (wk1 rfl (wk1 rfl (wk1 rfl (wk1 rfl (wk1 rfl (wk1 rfl (wk1 rfl (wk1 rfl (wk1 rfl (wk1 rfl (wk1 rfl (wk1 rfl (wk1 rfl (wk1 rfl (wk1 rfl (wk1 rfl (wk1 rfl (wk1 rfl (wk1 rfl (wk1 rfl (wk1 rfl (wk1 rfl (wk1 rfl (wk1 rfl (wk1 rfl (wk1 rfl (wk1 rfl (wk1 rfl (wk1 rfl wk0))))))))))))))))))))))))))))))))))))))))))))))))))))))))))))))))))))))))))))))))))))))))))))))))))))))))))))))))) rfl) ?_
  rintro ⟨i, K, I, vk⟩ hi1
  try simp only [setsT, setsE, List.set_cons_zero, List.set_cons_succ]
  obtain ⟨hi1, hi2, hi3, hi4, hi5⟩ := hi1
  refine w_seq ?_
  refine w_seq ?_
  refine w_reg ?_
  refine s_val rfl (v_mv lk5) pt12 ?_
  refine s_val rfl (v_fap0 lk1) pt13 ?_
  refine s_val rfl (v_loadp lk13 (hga hn rfl) gt3) pt14 ?_
  refine s_val rfl (v_lenL lk14) pt15 ?_
  refine s_val rfl (v_lss lk12 lk15) pt16 ?_
  refine s_nil ?_
  refine n_seq ?_
  first | refine w_cond lk16 (fun hc1 => ?_) (fun hc1 => ?_) | refine w_condB lk16 (fun hc1 => ?_) (fun hc1 => ?_)
  · skip
    have hk : i < t.2.length := by omega
    rw [List.drop_eq_getElem_cons hk] at hi3 hi4
    have hkl2 := addK_len K t.2[i].2
    have hok := timeB_iff.1 (hv3 _ (List.getElem_mem hk)).1
    have hil := idx_le K t.2[i].2
    have hzl := zip_len (l := t.2) (I := kindI t) (k := i) (by omega) hIl
    have hzs := zip_step (l := t.2) (I := kindI t) hk hIl
    have hix : (kindI t)[i]'(by omega) = idx K t.2[i].2 := by
      have : (kindI t)[i]? = some (idx K t.2[i].2) := by rw [hi4, isOf, List.getElem?_append_right (by omega), hi2, Nat.sub_self]; rfl
      exact (List.getElem?_eq_some_iff.1 this).2
    rw [hix] at hzs
    refine w_skip ?_
    refine n_seq ?_
    refine w_seq ?_
    refine w_block ?_
    refine w_seq ?_
    refine w_reg ?_
    refine s_val rfl (v_mv lki) pt6 ?_
    refine s_nil ?_
    refine n_seq ?_
    refine w_seq ?_
    refine w_block ?_
    refine w_loop (ι := Nat) (fun (j : Nat) => [(6, iv (j : Int)), (19, .any), (20, .any), (21, .any), (22, .any), (23, .any), (24, .any), (25, .any), (26, .any), (27, .any), (28, .any), (29, .any), (30, .any), (31, .any), (32, .any), (33, .any), (34, .any), (35, .any), (36, .any), (37, .any)]) (fun (j : Nat) => []) (fun (j : Nat) => j ≤ K.length ∧ j ≤ idx K t.2[i].2) (fun (j : Nat) => K.length - j) (0) (by exact ⟨by omega, by omega⟩) (by try simp only [setsT, setsE, List.set_cons_zero, List.set_cons_succ]; exact ALe.same (wk1 rfl (wk1 rfl (wk1 rfl (wk1 rfl (wk1 rfl (wk1 rfl (wk1 (by first | rfl | exact ivx (by omega) | (simp; done)) (wk1 rfl (wk1 rfl (wk1 rfl (wk1 rfl (wk1 rfl (wk1 rfl (wk1 rfl (wk1 rfl (wk1 rfl (wk1 rfl (wk1 rfl (wk1 rfl (wka (wka (wka (wka (wka (wka (wka (wka (wka (wka (wka (wka (wka (wka (wka (wka (wka (wka (wka (wk1 rfl (wk1 rfl (wk1 rfl (wk1 rfl (wk1 rfl (wk1 rfl (wk1 rfl (wk1 rfl (wk1 rfl (wk1 rfl (wk1 rfl (wk1 rfl (wk1 rfl (wk1 rfl (wk1 rfl (wk1 rfl (wk1 rfl (wk1 rfl (wk1 rfl (wk1 rfl (wk1 rfl (wk1 rfl (wk1 rfl (wk1 rfl (wk1 rfl (wk1 rfl (wk1 rfl (wk1 rfl (wk1 rfl (wk1 rfl (wk1 rfl (wk1 rfl (wk1 rfl (wk1 rfl (wk1 rfl (wk1 rfl (wk1 rfl (wk1 rfl (wk1 rfl (wk1 rfl (wk1 rfl (wk1 rfl (wk1 rfl (wk1 rfl (wk1 rfl (wk1 rfl (wk1 rfl (wk1 rfl (wk1 rfl (wk1 rfl (wk1 rfl (wk1 rfl (wk1 rfl (wk1 rfl (wk1 rfl (wk1 rfl (wk1 rfl (wk1 rfl (wk1 rfl (wk1 rfl (wk1 rfl (wk1 rfl (wk1 rfl (wk1 rfl (wk1 rfl (wk1 rfl (wk1 rfl (wk1 rfl (wk1 rfl (wk1 rfl (wk1 rfl (wk1 rfl (wk1 rfl (wk1 rfl (wk1 rfl wk0))))))))))))))))))))))))))))))))))))))))))))))))))))))))))))))))))))))))))))))))))))))))))))))))))))))))))))))))) rfl) ?_
    rintro j hi2
    try simp only [setsT, setsE, List.set_cons_zero, List.set_cons_succ]
    obtain ⟨hj1, hj2⟩ := hi2
    refine w_seq ?_
    refine w_seq ?_
    refine w_drwE ?_
    refine d_val rfl (v_mv lk6) pt19 ?_
    refine d_val rfl (v_mv lk3) pt20 ?_
    refine d_val rfl (v_lenO lk20) pt21 ?_
    refine d_val rfl (v_lss lk19 lk21) pt22 ?_
    refine d_val rfl (v_mv lk22) pt23 ?_
    first | refine d_splitP gt23 pt23 pt23 (fun hg23 => ?_) (fun hg23 => ?_) | refine d_splitB gt23 pt23 pt23 (fun hg23 => ?_) (fun hg23 => ?_)
    · skip
      have hj : j < K.length := by omega
      refine d_do gt23 ?_
      refine d_val rfl (v_mv lk3) pt24 ?_
      refine d_do gt23 ?_
      refine d_val rfl (v_mv lk6) pt25 ?_
      refine d_do gt23 ?_
      refine d_val rfl (v_iaOR lk24 lk25 (hga hn rfl) loc_len1 (Nat.le_of_ble_eq_true rfl) (by first | rfl | omega) (by omega) (by first | rfl | (simp; done) | omega)) pt26 ?_
      refine d_do gt23 ?_
      refine d_val rfl (v_ldOR lk26 (hga hn rfl) loc_len1 (by omega) rfl) pt27 ?_
      refine d_do gt23 ?_
      refine d_val rfl (v_fap0 lk1) pt28 ?_
      refine d_do gt23 ?_
      refine d_val rfl (v_loadp lk28 (hga hn rfl) gt3) pt29 ?_
      refine d_do gt23 ?_
      refine d_val rfl (v_mv lk5) pt30 ?_
      refine d_do gt23 ?_
      refine d_val rfl (v_iaR lk29 lk30 chg_len1 (Nat.le_of_ble_eq_true rfl) (by first | rfl | omega) (by omega) (by first | rfl | omega) rfl) pt31 ?_
      refine d_do gt23 ?_
      refine d_val rfl (v_far lk31 dp1) pt32 ?_
      refine d_do gt23 ?_
      refine d_val rfl (v_loadrA lk32 WRefA_tk_3 rfl) pt33 ?_
      refine d_do gt23 ?_
      refine d_val rfl (v_eqsN lk27 lk33 WRefA_eq_iis) pt34 ?_
      refine d_val rfl (v_pickT lk23 lk34) pt35 ?_
      refine d_nil ?_
      refine e_nil ?_
      refine s_nil ?_
      refine n_seq ?_
      first | refine w_cond lk35 (fun hc2 => ?_) (fun hc2 => ?_) | refine w_condB lk35 (fun hc2 => ?_) (fun hc2 => ?_)
      · skip
        have hkl : K[j] ≠ t.2[i].2 := fun e => hc2 (by rw [e]; exact ⟨rfl, rfl, rfl⟩)
        refine w_skip ?_
        refine n_seq ?_
        refine w_block ?_
        refine w_reg ?_
        refine s_val rfl (v_mv lk6) pt36 ?_
        refine s_val rfl (v_add lk36 lki (by omega) (by omega)) pt37 ?_
        refine s_val rfl (v_mv lk37) pt6 ?_
        refine s_nil ?_
        refine n_blk ?_
        refine n_thn ?_
        refine LoopTo.mk (j + 1) (by omega) (by (try dsimp only); exact ⟨by omega, idx_step hj hj2 hkl⟩) (by (try dsimp only); (try simp only [setsT, setsE, List.set_cons_zero, List.set_cons_succ]); exact ALe.same (wk1 rfl (wk1 rfl (wk1 rfl (wk1 rfl (wk1 rfl (wk1 rfl (wk1 (by first | rfl | exact ivx (by omega) | (simp; done)) (wk1 rfl (wk1 rfl (wk1 rfl (wk1 rfl (wk1 rfl (wk1 rfl (wk1 rfl (wk1 rfl (wk1 rfl (wk1 rfl (wk1 rfl (wk1 rfl (wka (wka (wka (wka (wka (wka (wka (wka (wka (wka (wka (wka (wka (wka (wka (wka (wka (wka (wka (wk1 rfl (wk1 rfl (wk1 rfl (wk1 rfl (wk1 rfl (wk1 rfl (wk1 rfl (wk1 rfl (wk1 rfl (wk1 rfl (wk1 rfl (wk1 rfl (wk1 rfl (wk1 rfl (wk1 rfl (wk1 rfl (wk1 rfl (wk1 rfl (wk1 rfl (wk1 rfl (wk1 rfl (wk1 rfl (wk1 rfl (wk1 rfl (wk1 rfl (wk1 rfl (wk1 rfl (wk1 rfl (wk1 rfl (wk1 rfl (wk1 rfl (wk1 rfl (wk1 rfl (wk1 rfl (wk1 rfl (wk1 rfl (wk1 rfl (wk1 rfl (wk1 rfl (wk1 rfl (wk1 rfl (wk1 rfl (wk1 rfl (wk1 rfl (wk1 rfl (wk1 rfl (wk1 rfl (wk1 rfl (wk1 rfl (wk1 rfl (wk1 rfl (wk1 rfl (wk1 rfl (wk1 rfl (wk1 rfl (wk1 rfl (wk1 rfl (wk1 rfl (wk1 rfl (wk1 rfl (wk1 rfl (wk1 rfl (wk1 rfl (wk1 rfl (wk1 rfl (wk1 rfl (wk1 rfl (wk1 rfl (wk1 rfl (wk1 rfl (wk1 rfl (wk1 rfl (wk1 rfl (wk1 rfl (wk1 rfl wk0))))))))))))))))))))))))))))))))))))))))))))))))))))))))))))))))))))))))))))))))))))))))))))))))))))))))))))))))) rfl)
      · skip
        have hkl : K[j] = t.2[i].2 := by obtain ⟨x1, x2, x3⟩ := Decidable.of_not_not hc2; exact Prod.ext x1 (Prod.ext x2 x3)
        have hji : j = idx K t.2[i].2 := by have := idx_no hj hkl; omega
        have ha : addK K t.2[i].2 = K := if_pos (by omega)
        refine w_exit ?_
        refine x_thn ?_
        refine x_thn ?_
        refine x_blk ?_
        refine n_seq ?_
        refine w_seq ?_
        refine w_seq ?_
        refine w_reg ?_
        refine s_val rfl (v_mv lk6) pt38 ?_
        refine s_val rfl (v_mv lk3) pt39 ?_
        refine s_val rfl (v_lenO lk39) pt40 ?_
        refine s_val rfl (v_eql lk38 lk40) pt41 ?_
        refine s_nil ?_
        refine n_seq ?_
        refine w_condKF lk41 (by exact decide_eq_false (by omega)) ?_
        refine w_skip ?_
        refine n_seq ?_
        refine w_reg ?_
        refine s_val rfl (v_mv lk4) pt51 ?_
        refine s_val rfl (v_fap0 lk1) pt52 ?_
        refine s_val rfl (v_loadp lk52 (hga hn rfl) gt3) pt53 ?_
        refine s_val rfl (v_mv lk5) pt54 ?_
        refine s_val rfl (v_iaR lk53 lk54 chg_len1 (Nat.le_of_ble_eq_true rfl) (by first | rfl | omega) (by omega) (by first | rfl | omega) rfl) pt55 ?_
        refine s_val rfl (v_far lk55 dp0) pt56 ?_
        refine s_val rfl (v_loadr lk56 gt0) pt57 ?_
        refine s_val rfl (v_add lk57 lki (by omega) (by omega)) pt58 ?_
        refine s_callp (mp1 lk58 (mp1 lki mp0)) (bytesOf_a (k := 5) (by omega) (by omega) (by omega)) pt59 ?_
        refine s_val rfl (v_mv lk6) pt60 ?_
        refine s_callp (mp1 lk60 (mp1 lki mp0)) (bytesOf_a (k := 2) (by omega) (by omega) (by omega)) pt61 ?_
        refine s_val rfl (v_addB lk59 lk61 (by simp only [le_len]; omega)) pt62 ?_
        refine s_val rfl (v_addB lk51 lk62 (by simp only [List.length_append, le_len, hzl]; omega)) pt63 ?_
        refine s_val rfl (v_mv lk63) pt4 ?_
        refine s_nil ?_
        refine n_blk ?_
        refine n_seq ?_
        refine w_reg ?_
        refine s_val rfl (v_mv lk5) pt17 ?_
        refine s_val rfl (v_add lk17 lki (by omega) (by omega)) pt18 ?_
        refine s_val rfl (v_mv lk18) pt5 ?_
        refine s_nil ?_
        refine n_thn ?_
        refine LoopTo.mk (⟨i + 1, K, I ++ [idx K t.2[i].2], vk⟩) (by omega) (by (try dsimp only); exact ⟨hk, by rw [List.length_append, hi2]; rfl, by rw [hi3, ksOf, ha], by rw [hi4, isOf, List.append_assoc, ha]; rfl, by omega⟩) (by (try dsimp only); (try simp only [setsT, setsE, List.set_cons_zero, List.set_cons_succ]); exact ALe.same (wk1 rfl (wk1 rfl (wk1 rfl (wk1 (by first | rfl | exact ivx (by omega) | (rw [List.length_append]; rfl) | (rw [hzs, hji]; rfl) | (rw [hzs, ← hji]; rfl) | done) (wk1 (by first | rfl | exact ivx (by omega) | (rw [List.length_append]; rfl) | (rw [hzs, hji]; rfl) | (rw [hzs, ← hji]; rfl) | done) (wk1 (by first | rfl | exact ivx (by omega) | (rw [List.length_append]; rfl) | (rw [hzs, hji]; rfl) | (rw [hzs, ← hji]; rfl) | done) (wka (wk1 rfl (wk1 rfl (wk1 rfl (wk1 rfl (wk1 rfl (wka (wka (wka (wka (wka (wka (wka (wka (wka (wka (wka (wka (wka (wka (wka (wka (wka (wka (wka (wka (wka (wka (wka (wka (wka (wka (wka (wka (wka (wka (wka (wka (wka (wka (wka (wka (wka (wka (wka (wka (wka (wka (wka (wka (wka (wka (wka (wka (wka (wka (wka (wka (wk1 rfl (wk1 rfl (wk1 rfl (wk1 rfl (wk1 rfl (wk1 rfl (wk1 rfl (wk1 rfl (wk1 rfl (wk1 rfl (wk1 rfl (wk1 rfl (wk1 rfl (wk1 rfl (wk1 rfl (wk1 rfl (wk1 rfl (wk1 rfl (wk1 rfl (wk1 rfl (wk1 rfl (wk1 rfl (wk1 rfl (wk1 rfl (wk1 rfl (wk1 rfl (wk1 rfl (wk1 rfl (wk1 rfl (wk1 rfl (wk1 rfl (wk1 rfl (wk1 rfl (wk1 rfl (wk1 rfl (wk1 rfl (wk1 rfl (wk1 rfl (wk1 rfl (wk1 rfl (wk1 rfl (wk1 rfl (wk1 rfl (wk1 rfl (wk1 rfl (wk1 rfl (wk1 rfl (wk1 rfl (wk1 rfl wk0))))))))))))))))))))))))))))))))))))))))))))))))))))))))))))))))))))))))))))))))))))))))))))))))))))))))))))))))) rfl)
    · skip
      have hj : j = K.length := by omega
      have hno : ¬ idx K t.2[i].2 < K.length := by omega
      have ha : addK K t.2[i].2 = K ++ [t.2[i].2] := if_neg hno
      have hji : j = idx K t.2[i].2 := by omega
      refine d_no gt23 pt24 ?_
      refine d_no gt23 pt25 ?_
      refine d_no gt23 pt26 ?_
      refine d_no gt23 pt27 ?_
      refine d_no gt23 pt28 ?_
      refine d_no gt23 pt29 ?_
      refine d_no gt23 pt30 ?_
      refine d_no gt23 pt31 ?_
      refine d_no gt23 pt32 ?_
      refine d_no gt23 pt33 ?_
      refine d_no gt23 pt34 ?_
      refine d_val rfl (v_pickF lk23 lkb) pt35 ?_
      refine d_nil ?_
      refine e_nil ?_
      refine s_nil ?_
      refine n_seq ?_
      refine w_condF lk35 ?_
      refine w_exit ?_
      refine x_thn ?_
      refine x_thn ?_
      refine x_blk ?_
      refine n_seq ?_
      refine w_seq ?_
      refine w_seq ?_
      refine w_reg ?_
      refine s_val rfl (v_mv lk6) pt38 ?_
      refine s_val rfl (v_mv lk3) pt39 ?_
      refine s_val rfl (v_lenO lk39) pt40 ?_
      refine s_val rfl (v_eql lk38 lk40) pt41 ?_
      refine s_nil ?_
      refine n_seq ?_
      refine w_condK lk41 (by exact decide_eq_true (by omega)) ?_
      refine w_reg ?_
      refine s_val rfl (v_mv lk3) pt42 ?_
      refine s_val rfl (v_fap0 lk1) pt43 ?_
      refine s_val rfl (v_loadp lk43 (hga hn rfl) gt3) pt44 ?_
      refine s_val rfl (v_mv lk5) pt45 ?_
      refine s_val rfl (v_iaR lk44 lk45 chg_len1 (Nat.le_of_ble_eq_true rfl) (by first | rfl | omega) (by omega) (by first | rfl | omega) rfl) pt46 ?_
      refine s_val rfl (v_far lk46 dp1) pt47 ?_
      refine s_val rfl (v_loadrA lk47 WRefA_tk_3 rfl) pt48 ?_
      refine s_eff rfl rfl (e_lit (WRefA_EncodeOf_46 (cvl lk48 rfl) rfl) (hl2 hn) ha2) pt49 ?_
      refine s_eff rfl rfl (e_app (sc_own lk49 (hga hn rfl) rfl WRefA_tk_3 (Nat.le_of_ble_eq_true rfl)) lk42 (hga hn rfl) (loc_len _) (by omega) rfl (hs1 hn)) pt50 ?_
      refine s_val rfl (v_mv lk50) pt3 ?_
      refine s_nil ?_
      refine n_seq ?_
      refine w_reg ?_
      refine s_val rfl (v_mv lk4) pt51 ?_
      refine s_val rfl (v_fap0 lk1) pt52 ?_
      refine s_val rfl (v_loadp lk52 (hga hn rfl) gt3) pt53 ?_
      refine s_val rfl (v_mv lk5) pt54 ?_
      refine s_val rfl (v_iaR lk53 lk54 chg_len1 (Nat.le_of_ble_eq_true rfl) (by first | rfl | omega) (by omega) (by first | rfl | omega) rfl) pt55 ?_
      refine s_val rfl (v_far lk55 dp0) pt56 ?_
      refine s_val rfl (v_loadr lk56 gt0) pt57 ?_
      refine s_val rfl (v_add lk57 lki (by omega) (by omega)) pt58 ?_
      refine s_callp (mp1 lk58 (mp1 lki mp0)) (bytesOf_a (k := 5) (by omega) (by omega) (by omega)) pt59 ?_
      refine s_val rfl (v_mv lk6) pt60 ?_
      refine s_callp (mp1 lk60 (mp1 lki mp0)) (bytesOf_a (k := 2) (by omega) (by omega) (by omega)) pt61 ?_
      refine s_val rfl (v_addB lk59 lk61 (by simp only [le_len]; omega)) pt62 ?_
      refine s_val rfl (v_addB lk51 lk62 (by simp only [List.length_append, le_len, hzl]; omega)) pt63 ?_
      refine s_val rfl (v_mv lk63) pt4 ?_
      refine s_nil ?_
      refine n_blk ?_
      refine n_seq ?_
      refine w_reg ?_
      refine s_val rfl (v_mv lk5) pt17 ?_
      refine s_val rfl (v_add lk17 lki (by omega) (by omega)) pt18 ?_
      refine s_val rfl (v_mv lk18) pt5 ?_
      refine s_nil ?_
      refine n_thn ?_
      refine LoopTo.mk (⟨i + 1, K ++ [t.2[i].2], I ++ [idx K t.2[i].2], vk + 1⟩) (by omega) (by (try dsimp only); exact ⟨hk, by rw [List.length_append, hi2]; rfl, by rw [hi3, ksOf, ha], by rw [hi4, isOf, List.append_assoc, ha]; rfl, by simp; omega⟩) (by (try dsimp only); (try simp only [setsT, setsE, List.set_cons_zero, List.set_cons_succ]); exact ALe.back (wk1 rfl (wk1 rfl (wk1 rfl (wk1 (by first | rfl | exact ivx (by omega) | (rw [List.length_append]; rfl) | (rw [hzs, hji]; rfl) | (rw [hzs, ← hji]; rfl) | done) (wk1 (by first | rfl | exact ivx (by omega) | (rw [List.length_append]; rfl) | (rw [hzs, hji]; rfl) | (rw [hzs, ← hji]; rfl) | done) (wk1 (by first | rfl | exact ivx (by omega) | (rw [List.length_append]; rfl) | (rw [hzs, hji]; rfl) | (rw [hzs, ← hji]; rfl) | done) (wka (wk1 rfl (wk1 rfl (wk1 rfl (wk1 rfl (wk1 rfl (wka (wka (wka (wka (wka (wka (wka (wka (wka (wka (wka (wka (wka (wka (wka (wka (wka (wka (wka (wka (wka (wka (wka (wka (wka (wka (wka (wka (wka (wka (wka (wka (wka (wka (wka (wka (wka (wka (wka (wka (wka (wka (wka (wka (wka (wka (wka (wka (wka (wka (wka (wka (wk1 rfl (wk1 rfl (wk1 rfl (wk1 rfl (wk1 rfl (wk1 rfl (wk1 rfl (wk1 rfl (wk1 rfl (wk1 rfl (wk1 rfl (wk1 rfl (wk1 rfl (wk1 rfl (wk1 rfl (wk1 rfl (wk1 rfl (wk1 rfl (wk1 rfl (wk1 rfl (wk1 rfl (wk1 rfl (wk1 rfl (wk1 rfl (wk1 rfl (wk1 rfl (wk1 rfl (wk1 rfl (wk1 rfl (wk1 rfl (wk1 rfl (wk1 rfl (wk1 rfl (wk1 rfl (wk1 rfl (wk1 rfl (wk1 rfl (wk1 rfl (wk1 rfl (wk1 rfl (wk1 rfl (wk1 rfl (wk1 rfl (wk1 rfl (wk1 rfl (wk1 rfl (wk1 rfl (wk1 rfl (wk1 rfl wk0))))))))))))))))))))))))))))))))))))))))))))))))))))))))))))))))))))))))))))))))))))))))))))))))))))))))))))))))) (by simp only [rows_app, rows_one]; rfl) (k := N + 2) (by simp only [List.length_cons, List.length_nil, hn]) (by omega) (by first | rfl | (simp only [AV.lt, AV.ltL, Ent.lt, List.all_cons, List.all_nil, Bool.and_true, Bool.and_self, decide_true, chg_lt, u8_lt, loc_lt, in_lt, ltL_app]; done) | (simp [AV.lt, AV.ltL, Ent.lt, chg_lt, u8_lt, loc_lt, in_lt, ltL_app, *]; done) | (simp [AV.lt, AV.ltL, Ent.lt, chg_lt, u8_lt, loc_lt, in_lt, ltL_app, *]; omega)) (ltw (by omega) hlt) (by first | rfl | (simp only [AV.lt, AV.ltL, Ent.lt, List.all_cons, List.all_nil, Bool.and_true, Bool.and_self, decide_true, chg_lt, u8_lt, loc_lt, in_lt, ltL_app]; done) | (simp [AV.lt, AV.ltL, Ent.lt, chg_lt, u8_lt, loc_lt, in_lt, ltL_app, *]; done) | (simp [AV.lt, AV.ltL, Ent.lt, chg_lt, u8_lt, loc_lt, in_lt, ltL_app, *]; omega)))
  · skip
    rw [List.drop_eq_nil_of_le (by omega), ksOf] at hi3
    rw [List.drop_eq_nil_of_le (by omega), isOf, List.append_nil] at hi4
    have hil : i = t.2.length := by omega
    subst hi3
    refine w_exit ?_
    refine x_thn ?_
    refine x_thn ?_
    refine x_blk ?_
    skip
    refine n_seqw (ALe.iceR (hga hn rfl) gt3 (List.take_of_length_le (by rw [loc_len]; exact Nat.le_refl _)) (by rw [loc_len]; exact Nat.le_refl _) pt3 (hs1 hn)) ?_
    refine w_seq ?_
    refine w_reg ?_
    refine s_val rfl (v_mv lk3) pt64 ?_
    refine s_val rfl (v_lenL lk64) pt65 ?_
    refine s_callp (mp1 lk65 (mp1 lki mp0)) (bytesOf_a (k := 2) (by omega) (by omega) (by omega)) pt66 ?_
    refine s_val rfl (v_mv lk66) pt7 ?_
    refine s_nil ?_
    refine n_seq ?_
    refine w_seq ?_
    refine w_seq ?_
    refine w_reg ?_
    refine s_val rfl (v_mv lki) pt8 ?_
    refine s_nil ?_
    refine n_seq ?_
    refine w_block ?_
    refine w_loop (ι := Nat) (fun (j : Nat) => [(7, sb (le 2 (kinds t).length ++ ((kinds t).take j).flatMap encL)), (8, iv (j : Int)), (67, .any), (68, .any), (69, .any), (70, .any), (71, .any), (72, .any), (73, .any), (74, .any), (75, .any), (76, .any), (77, .any), (78, .any), (79, .any), (80, .any), (81, .any), (82, .any), (83, .any), (84, .any), (85, .any), (86, .any), (87, .any), (88, .any), (89, .any), (90, .any), (91, .any), (92, .any), (93, .any), (94, .any), (95, .any), (96, .any), (97, .any), (98, .any), (99, .any), (100, .any), (101, .any), (102, .any)]) (fun (j : Nat) => []) (fun (j : Nat) => j ≤ (kinds t).length) (fun (j : Nat) => (kinds t).length - j) (0) (by exact Nat.zero_le _) (by try simp only [setsT, setsE, List.set_cons_zero, List.set_cons_succ]; exact ALe.same (wk1 rfl (wk1 rfl (wk1 rfl (wk1 rfl (wk1 rfl (wk1 rfl (wk1 rfl (wk1 (by first | rfl | exact ivx (by omega) | (simp; done)) (wk1 (by first | rfl | exact ivx (by omega) | (simp; done)) (wk1 rfl (wk1 rfl (wk1 rfl (wk1 rfl (wk1 rfl (wk1 rfl (wk1 rfl (wk1 rfl (wk1 rfl (wk1 rfl (wk1 rfl (wk1 rfl (wk1 rfl (wk1 rfl (wk1 rfl (wk1 rfl (wk1 rfl (wk1 rfl (wk1 rfl (wk1 rfl (wk1 rfl (wk1 rfl (wk1 rfl (wk1 rfl (wk1 rfl (wk1 rfl (wk1 rfl (wk1 rfl (wk1 rfl (wk1 rfl (wk1 rfl (wk1 rfl (wk1 rfl (wk1 rfl (wk1 rfl (wk1 rfl (wk1 rfl (wk1 rfl (wk1 rfl (wk1 rfl (wk1 rfl (wk1 rfl (wk1 rfl (wk1 rfl (wk1 rfl (wk1 rfl (wk1 rfl (wk1 rfl (wk1 rfl (wk1 rfl (wk1 rfl (wk1 rfl (wk1 rfl (wk1 rfl (wk1 rfl (wk1 rfl (wk1 rfl (wk1 rfl (wka (wka (wka (wka (wka (wka (wka (wka (wka (wka (wka (wka (wka (wka (wka (wka (wka (wka (wka (wka (wka (wka (wka (wka (wka (wka (wka (wka (wka (wka (wka (wka (wka (wka (wka (wka (wk1 rfl (wk1 rfl (wk1 rfl (wk1 rfl (wk1 rfl (wk1 rfl (wk1 rfl (wk1 rfl (wk1 rfl (wk1 rfl wk0))))))))))))))))))))))))))))))))))))))))))))))))))))))))))))))))))))))))))))))))))))))))))))))))))))))))))))))))) rfl) ?_
    rintro j hi3
    try simp only [setsT, setsE, List.set_cons_zero, List.set_cons_succ]
    refine w_seq ?_
    refine w_seq ?_
    refine w_reg ?_
    refine s_val rfl (v_mv lk8) pt67 ?_
    refine s_val rfl (v_mv lk3) pt68 ?_
    refine s_val rfl (v_lenL lk68) pt69 ?_
    refine s_val rfl (v_lss lk67 lk69) (ptS pt0) ?_
    refine s_nil ?_
    refine n_seq ?_
    first | refine w_cond (lkS lk0) (fun hc4 => ?_) (fun hc4 => ?_) | refine w_condB (lkS lk0) (fun hc4 => ?_) (fun hc4 => ?_)
    · skip
      have hj : j < (kinds t).length := by omega
      have hokl := locE_ok (hkl _ (List.getElem_mem hj))
      refine w_skip ?_
      refine n_seq ?_
      refine w_seq ?_
      refine w_block ?_
      refine w_drwE ?_
      refine d_val rfl (v_mv lk7) (ptS pt3) ?_
      refine d_val rfl (v_mv lk3) (ptS pt4) ?_
      refine d_val rfl (v_mv lk8) (ptS pt5) ?_
      refine d_val rfl (v_iaR (lkS lk4) (lkS lk5) loc_len1 (Nat.le_of_ble_eq_true rfl) (by first | rfl | omega) (by omega) (by first | rfl | omega) rfl) (ptS pt6) ?_
      refine d_val rfl (v_far (lkS lk6) dp0) (ptS pt7) ?_
      refine d_val rfl (v_loadr (lkS lk7) gt0) (ptS pt8) ?_
      refine d_val rfl (v_add (lkS lk8) lki (by first | omega | (simp; omega)) (by first | omega | (simp; omega))) (ptS pt9) ?_
      refine d_callp (mp1 (lkS lk9) (mp1 lki mp0)) (fun hE hX => bytesOf_a (k := 3) (by omega) (by omega) (by omega)) (ptS pt10) ?_
      refine d_val rfl (v_mv lk3) (ptS pt11) ?_
      refine d_val rfl (v_mv lk8) (ptS pt12) ?_
      refine d_val rfl (v_iaR (lkS lk11) (lkS lk12) loc_len1 (Nat.le_of_ble_eq_true rfl) (by first | rfl | omega) (by omega) (by first | rfl | omega) rfl) (ptS pt13) ?_
      refine d_val rfl (v_far (lkS lk13) dp1) (ptS pt14) ?_
      refine d_val rfl (v_loadr (lkS lk14) gt0) (ptS pt15) ?_
      refine d_callp (mp1 (lkS lk15) (mp1 lki mp0)) (fun hE hX => bytesOf_a (k := 2) (by omega) (by omega) (by omega)) (ptS pt16) ?_
      refine d_val rfl (v_addB (lkS lk10) (lkS lk16) (by simp only [le_len]; omega)) (ptS pt17) ?_
      refine d_val rfl (v_mv lk3) (ptS pt18) ?_
      refine d_val rfl (v_mv lk8) (ptS pt19) ?_
      refine d_val rfl (v_iaR (lkS lk18) (lkS lk19) loc_len1 (Nat.le_of_ble_eq_true rfl) (by first | rfl | omega) (by omega) (by first | rfl | omega) rfl) (ptS pt20) ?_
      refine d_val rfl (v_far (lkS lk20) dp2) (ptS pt21) ?_
      refine d_val rfl (v_loadr (lkS lk21) gt0) (ptS pt22) ?_
      refine d_val rfl (v_lenS (lkS lk22)) (ptS pt23) ?_
      refine d_callp (mp1 (lkS lk23) (mp1 lki mp0)) (fun hE hX => bytesOf_a (k := 1) (by omega) (by omega) (by omega)) (ptS pt24) ?_
      refine d_val rfl (v_addB (lkS lk17) (lkS lk24) (by simp only [List.length_append, le_len]; omega)) (ptS pt25) ?_
      refine d_val rfl (v_mv lk3) (ptS pt26) ?_
      refine d_val rfl (v_mv lk8) (ptS pt27) ?_
      refine d_val rfl (v_iaR (lkS lk26) (lkS lk27) loc_len1 (Nat.le_of_ble_eq_true rfl) (by first | rfl | omega) (by omega) (by first | rfl | omega) rfl) (ptS pt28) ?_
      refine d_val rfl (v_far (lkS lk28) dp2) (ptS pt29) ?_
      refine d_val rfl (v_loadr (lkS lk29) gt0) (ptS pt30) ?_
      refine d_val rfl (v_addBS (lkS lk25) (lkS lk30) (by simp only [List.length_append, le_len]; omega)) (ptS pt31) ?_
      refine d_val rfl (v_addB (lkS lk3) (lkS lk31) (by simp only [List.length_append, le_len, List.length_append]; have := hfl j; have e9 : (kinds t)[j].2.2.data.toList.length = (kinds t)[j].2.2.size := (by simp); omega)) (ptS pt32) ?_
      refine d_val rfl (v_mv (lkS lk32)) pt7 ?_
      refine d_nil ?_
      refine e_nil ?_
      refine s_nil ?_
      refine n_blk ?_
      refine n_seq ?_
      refine w_reg ?_
      refine s_val rfl (v_mv lk8) (ptS pt1) ?_
      refine s_val rfl (v_add (lkS lk1) lki (by omega) (by omega)) (ptS pt2) ?_
      refine s_val rfl (v_mv (lkS lk2)) pt8 ?_
      refine s_nil ?_
      refine n_thn ?_
      refine LoopTo.mk (j + 1) (by omega) (by (try dsimp only); omega) (by (try dsimp only); (try simp only [setsT, setsE, List.set_cons_zero, List.set_cons_succ]); exact ALe.same (wk1 rfl (wk1 rfl (wk1 rfl (wk1 rfl (wk1 rfl (wk1 rfl (wk1 rfl (wk1 (by first | rfl | exact ivx (by omega) | (rw [flat_step encL hj]; simp [encL]; done)) (wk1 (by first | rfl | exact ivx (by omega) | (rw [flat_step encL hj]; simp [encL]; done)) (wk1 rfl (wk1 rfl (wk1 rfl (wk1 rfl (wk1 rfl (wk1 rfl (wk1 rfl (wk1 rfl (wk1 rfl (wk1 rfl (wk1 rfl (wk1 rfl (wk1 rfl (wk1 rfl (wk1 rfl (wk1 rfl (wk1 rfl (wk1 rfl (wk1 rfl (wk1 rfl (wk1 rfl (wk1 rfl (wk1 rfl (wk1 rfl (wk1 rfl (wk1 rfl (wk1 rfl (wk1 rfl (wk1 rfl (wk1 rfl (wk1 rfl (wk1 rfl (wk1 rfl (wk1 rfl (wk1 rfl (wk1 rfl (wk1 rfl (wk1 rfl (wk1 rfl (wk1 rfl (wk1 rfl (wk1 rfl (wk1 rfl (wk1 rfl (wk1 rfl (wk1 rfl (wk1 rfl (wk1 rfl (wk1 rfl (wk1 rfl (wk1 rfl (wk1 rfl (wk1 rfl (wk1 rfl (wk1 rfl (wk1 rfl (wk1 rfl (wk1 rfl (wka (wka (wka (wka (wka (wka (wka (wka (wka (wka (wka (wka (wka (wka (wka (wka (wka (wka (wka (wka (wka (wka (wka (wka (wka (wka (wka (wka (wka (wka (wka (wka (wka (wka (wka (wka (wk1 rfl (wk1 rfl (wk1 rfl (wk1 rfl (wk1 rfl (wk1 rfl (wk1 rfl (wk1 rfl (wk1 rfl (wk1 rfl wk0))))))))))))))))))))))))))))))))))))))))))))))))))))))))))))))))))))))))))))))))))))))))))))))))))))))))))))))))) rfl)
    · skip
      refine w_exit ?_
      refine x_thn ?_
      refine x_thn ?_
      refine x_blk ?_
      refine n_seq ?_
      refine w_seq ?_
      refine w_drwE ?_
      refine d_val rfl (v_mv lk7) (ptS pt33) ?_
      refine d_callp (mp1 lki (mp1 lki mp0)) (fun hE hX => bytesOf_a (k := 2) (n := 0) (by omega) (by omega) (by omega)) (ptS pt34) ?_
      refine d_val rfl (v_addB (lkS lk33) (lkS lk34) (by simp only [List.length_append, le_len]; have := hfl j; omega)) (ptS pt35) ?_
      refine d_val rfl (v_fap0 lk1) (ptS pt36) ?_
      refine d_val rfl (v_loadp (lkS lk36) (hga hn rfl) gt3) (ptS pt37) ?_
      refine d_val rfl (v_lenL (lkS lk37)) (ptS pt38) ?_
      refine d_callp (mp1 (lkS lk38) (mp1 lki mp0)) (fun hE hX => bytesOf_a (k := 2) (by omega) (by omega) (by omega)) (ptS pt39) ?_
      refine d_val rfl (v_addB (lkS lk35) (lkS lk39) (by simp only [List.length_append, le_len]; have := hfl j; omega)) (ptS pt40) ?_
      refine d_val rfl (v_mv lk4) (ptS pt41) ?_
      refine d_val rfl (v_addB (lkS lk40) (lkS lk41) (by simp only [List.length_append, le_len]; have := hfl j; have e9 := zip_len (l := t.2) (I := kindI t) (k := i) (by omega) hIl; omega)) (ptS pt42) ?_
      refine d_val rfl (v_mv (lkS lk42)) pt2 ?_
      refine d_nil ?_
      refine e_nil ?_
      refine s_nil ?_
      refine n_seq ?_
      refine w_rets ?_
      refine w_ret (rs1 (rr_t gt2)) ?_
      refine rt (by first | rfl | (simp only [AV.lt, AV.ltL, Ent.lt, List.all_cons, List.all_nil, Bool.and_true, Bool.and_self, decide_true, chg_lt, u8_lt, loc_lt, in_lt, ltL_app]; done) | (simp [AV.lt, AV.ltL, Ent.lt, chg_lt, u8_lt, loc_lt, in_lt, ltL_app, *]; done) | (simp [AV.lt, AV.ltL, Ent.lt, chg_lt, u8_lt, loc_lt, in_lt, ltL_app, *]; omega)) ?_
      have hjl : j = (kinds t).length := by omega
      rw [hjl, hil, List.take_length, List.take_of_length_le (by rw [List.length_zip]; omega)]
      simp [enc]
end Go.Proofs.Ytmbebimingkfeaa
