/-
  Contracts on plain data: the reference's dates, and how it is by a table. Conditions: those that each theorem names.
-/
import Derived.Test.YtmbebimingkfeaaLPlain
import Derived.Test.YtmbebimingkfeaaARefA
set_option linter.unusedVariables false
set_option linter.unusedSimpArgs false
set_option maxRecDepth 100000
namespace Go.Proofs.Ytmbebimingkfeaa
open Go.Ab Civ
section
theorem LRefA_DateOf_14 {τ : Operand → AV} {y0 y1 y2 : Operand} {x0_0 x1_0 x2_0 : AV} (h0 : cellsV (τ y0) = some [x0_0]) (l0 : [x0_0].all leaf = true) (h1 : cellsV (τ y1) = some [x1_0]) (l1 : [x1_0].all leaf = true) (h2 : cellsV (τ y2) = some [x2_0]) (l2 : [x2_0].all leaf = true) : fillAV τ [(0, 1, y0), (1, 1, y1), (2, 1, y2)] [(.v (.int .i64 0)), (.v (.int .i64 0)), (.v (.int .i64 0))] = some [x0_0, x1_0, x2_0] := by
  simp only [fillAV, h0, l0, h1, l1, h2, l2]
  rfl
theorem LRefA_DateOf_23 {τ : Operand → AV} {y0 y1 y2 : Operand} {x0_0 x1_0 x2_0 : AV} (h0 : cellsV (τ y0) = some [x0_0]) (l0 : [x0_0].all leaf = true) (h1 : cellsV (τ y1) = some [x1_0]) (l1 : [x1_0].all leaf = true) (h2 : cellsV (τ y2) = some [x2_0]) (l2 : [x2_0].all leaf = true) : fillAV τ [(0, 1, y0), (1, 1, y1), (2, 1, y2)] [(.v (.int .i64 0)), (.v (.int .i64 0)), (.v (.int .i64 0))] = some [x0_0, x1_0, x2_0] := by
  simp only [fillAV, h0, l0, h1, l1, h2, l2]
  rfl
theorem LRefA_sc0_3 {a0 a1 a2 c0 c1 c2 : AV} {l : List AV} : setCells (a0 :: a1 :: a2 :: l) 0 [c0, c1, c2] = c0 :: c1 :: c2 :: l := rfl
theorem LRefA_tk0_3 {a0 a1 a2 : AV} {l : List AV} : ((a0 :: a1 :: a2 :: l).drop 0).take 3 = [a0, a1, a2] := rfl
theorem LRefA_sc1_1 {a0 a1 c0 : AV} {l : List AV} : setCells (a0 :: a1 :: l) 1 [c0] = a0 :: c0 :: l := rfl
theorem LRefA_sc2_1 {a0 a1 a2 c0 : AV} {l : List AV} : setCells (a0 :: a1 :: a2 :: l) 2 [c0] = a0 :: a1 :: c0 :: l := rfl
theorem LRefA_tk_3 {a0 a1 a2 : AV} {l : List AV} : (a0 :: a1 :: a2 :: l).take 3 = [a0, a1, a2] := rfl
theorem LRefA_tk0_4 {a0 a1 a2 a3 : AV} {l : List AV} : ((a0 :: a1 :: a2 :: a3 :: l).drop 0).take 4 = [a0, a1, a2, a3] := rfl
theorem LRefA_WallOf_27 {τ : Operand → AV} : fillAV τ [] [(.v (.int .i64 0)), (.v (.int .i64 0)), (.v (.int .i64 0))] = some [(.v (.int .i64 0)), (.v (.int .i64 0)), (.v (.int .i64 0))] := rfl
end
/-- datelineref.isLeap -/
def c75 : AC := (.seq (.reg [⟨(some 2), none, (.mv (.const (.bool false)))⟩]) (.seq (.reg [⟨(some 3), none, (.mv (.tmp 0))⟩, ⟨(some 4), none, (.bin .rem (.tmp 3) (.const (.int .i64 400)))⟩, ⟨(some 5), none, (.bin .eql (.tmp 4) (.const (.int .i64 0)))⟩, ⟨(some 6), none, (.mv (.tmp 5))⟩, ⟨(some 7), (some (6, false)), (.mv (.tmp 0))⟩, ⟨(some 8), (some (6, false)), (.bin .rem (.tmp 7) (.const (.int .i64 4)))⟩, ⟨(some 9), (some (6, false)), (.bin .eql (.tmp 8) (.const (.int .i64 0)))⟩, ⟨(some 10), (some (6, false)), (.mv (.tmp 9))⟩, ⟨(some 11), (some (10, true)), (.mv (.tmp 0))⟩, ⟨(some 12), (some (10, true)), (.bin .rem (.tmp 11) (.const (.int .i64 100)))⟩, ⟨(some 13), (some (10, true)), (.bin .neq (.tmp 12) (.const (.int .i64 0)))⟩, ⟨(some 14), (some (6, false)), (.pick (.tmp 10) (.tmp 13) (.const (.bool false)))⟩, ⟨(some 15), none, (.pick (.tmp 6) (.const (.bool true)) (.tmp 14))⟩, ⟨(some 2), none, (.mv (.tmp 15))⟩]) .ret))
theorem k75 : compF Try.prog 75 = some ⟨c75, [(.tmp 2)], 16⟩ := by kernel_rfl
theorem i75 {a0 : AV} {h : AH} {R : AE → Prop} (hw : ∀ n, h.length = n → (∀ e ∈ h, e.lt n = true) → AV.ltL n [a0] = true → AV.bdL [a0] → aw Try.prog n c75 (retA [(.tmp 2)] fun x h' => ∃ z, h' = h ++ z ∧ x.lt n = true ∧ R x) [a0, .any, .any, .any, .any, .any, .any, .any, .any, .any, .any, .any, .any, .any, .any, .any] (h ++ [])) : ACalls Try.prog 75 [a0] h fun x h' => h' = h ∧ R x := ACalls.into k75 rfl hw
theorem w75 {a0 : AV} {h : AH} {res : AV} (hw : ∀ n, h.length = n → (∀ e ∈ h, e.lt n = true) → AV.ltL n [a0] = true → AV.bdL [a0] → aw Try.prog n c75 (retA [(.tmp 2)] fun x h' => ∃ z, h' = h ++ z ∧ x.lt n = true ∧ ∃ c, x = .ret c ∧ Wk c res) [a0, .any, .any, .any, .any, .any, .any, .any, .any, .any, .any, .any, .any, .any, .any, .any] (h ++ [])) : ACalls Try.prog 75 [a0] h fun x h' => h' = h ∧ x = .ret res := ACalls.weak (ACalls.into k75 rfl hw)
theorem n75 {a0 : AV} {h : AH} {R : AE → AH → Prop} (hw : ∀ n, h.length = n → (∀ e ∈ h, e.lt n = true) → AV.ltL n [a0] = true → AV.bdL [a0] → aw Try.prog n c75 (retA [(.tmp 2)] R) [a0, .any, .any, .any, .any, .any, .any, .any, .any, .any, .any, .any, .any, .any, .any, .any] (h ++ [])) : ACalls Try.prog 75 [a0] h R := ACalls.intoN k75 rfl hw
theorem j75 {a0 : AV} {h : AH} {R : AE → AH → Prop} (hw : ∀ n, h.length = n → (∀ e ∈ h, e.lt n = true) → AV.ltL n [a0] = true → AV.bdL [a0] → aw Try.prog n c75 (retA [(.tmp 2)] fun x h' => ∃ y z, h' = y ++ z ∧ y.length = n ∧ (∀ e ∈ y, e.lt n = true) ∧ x.lt n = true ∧ R x y) [a0, .any, .any, .any, .any, .any, .any, .any, .any, .any, .any, .any, .any, .any, .any, .any] (h ++ [])) : ACalls Try.prog 75 [a0] h R := ACalls.intoG k75 rfl hw
/-- datelineref.MonthLength -/
def c55 : AC := (.seq (.reg [⟨(some 4), none, (.mv (.const (.int .i64 0)))⟩]) (.seq (.seq (.reg [⟨(some 5), none, (.mv (.tmp 1))⟩]) (.block 0 (.seq (.seq (.reg [⟨(some 7), none, (.bin .eql (.tmp 5) (.const (.int .i64 4)))⟩, ⟨(some 6), none, (.mv (.tmp 7))⟩]) (.cond (.tmp 6) .skip (.seq (.reg [⟨(some 8), none, (.bin .eql (.tmp 5) (.const (.int .i64 6)))⟩, ⟨(some 6), none, (.mv (.tmp 8))⟩]) (.cond (.tmp 6) .skip (.seq (.reg [⟨(some 9), none, (.bin .eql (.tmp 5) (.const (.int .i64 9)))⟩, ⟨(some 6), none, (.mv (.tmp 9))⟩]) (.cond (.tmp 6) .skip (.reg [⟨(some 10), none, (.bin .eql (.tmp 5) (.const (.int .i64 11)))⟩, ⟨(some 6), none, (.mv (.tmp 10))⟩]))))))) (.cond (.tmp 6) (.seq (.reg [⟨(some 4), none, (.mv (.const (.int .i64 30)))⟩]) .ret) (.seq (.reg [⟨(some 12), none, (.bin .eql (.tmp 5) (.const (.int .i64 2)))⟩, ⟨(some 11), none, (.mv (.tmp 12))⟩]) (.cond (.tmp 11) (.seq (.seq (.reg [⟨(some 13), none, (.mv (.tmp 0))⟩, ⟨(some 14), none, (.call (.func 75) [(.tmp 13)])⟩]) (.cond (.tmp 14) (.seq (.reg [⟨(some 4), none, (.mv (.const (.int .i64 29)))⟩]) .ret) .skip)) (.seq (.reg [⟨(some 4), none, (.mv (.const (.int .i64 28)))⟩]) .ret)) .skip)))))) (.seq (.reg [⟨(some 4), none, (.mv (.const (.int .i64 31)))⟩]) .ret)))
theorem k55 : compF Try.prog 55 = some ⟨c55, [(.tmp 4)], 15⟩ := by kernel_rfl
theorem i55 {a0 a1 : AV} {h : AH} {R : AE → Prop} (hw : ∀ n, h.length = n → (∀ e ∈ h, e.lt n = true) → AV.ltL n [a0, a1] = true → AV.bdL [a0, a1] → aw Try.prog n c55 (retA [(.tmp 4)] fun x h' => ∃ z, h' = h ++ z ∧ x.lt n = true ∧ R x) [a0, a1, .any, .any, .any, .any, .any, .any, .any, .any, .any, .any, .any, .any, .any] (h ++ [])) : ACalls Try.prog 55 [a0, a1] h fun x h' => h' = h ∧ R x := ACalls.into k55 rfl hw
theorem w55 {a0 a1 : AV} {h : AH} {res : AV} (hw : ∀ n, h.length = n → (∀ e ∈ h, e.lt n = true) → AV.ltL n [a0, a1] = true → AV.bdL [a0, a1] → aw Try.prog n c55 (retA [(.tmp 4)] fun x h' => ∃ z, h' = h ++ z ∧ x.lt n = true ∧ ∃ c, x = .ret c ∧ Wk c res) [a0, a1, .any, .any, .any, .any, .any, .any, .any, .any, .any, .any, .any, .any, .any] (h ++ [])) : ACalls Try.prog 55 [a0, a1] h fun x h' => h' = h ∧ x = .ret res := ACalls.weak (ACalls.into k55 rfl hw)
theorem n55 {a0 a1 : AV} {h : AH} {R : AE → AH → Prop} (hw : ∀ n, h.length = n → (∀ e ∈ h, e.lt n = true) → AV.ltL n [a0, a1] = true → AV.bdL [a0, a1] → aw Try.prog n c55 (retA [(.tmp 4)] R) [a0, a1, .any, .any, .any, .any, .any, .any, .any, .any, .any, .any, .any, .any, .any] (h ++ [])) : ACalls Try.prog 55 [a0, a1] h R := ACalls.intoN k55 rfl hw
theorem j55 {a0 a1 : AV} {h : AH} {R : AE → AH → Prop} (hw : ∀ n, h.length = n → (∀ e ∈ h, e.lt n = true) → AV.ltL n [a0, a1] = true → AV.bdL [a0, a1] → aw Try.prog n c55 (retA [(.tmp 4)] fun x h' => ∃ y z, h' = y ++ z ∧ y.length = n ∧ (∀ e ∈ y, e.lt n = true) ∧ x.lt n = true ∧ R x y) [a0, a1, .any, .any, .any, .any, .any, .any, .any, .any, .any, .any, .any, .any, .any] (h ++ [])) : ACalls Try.prog 55 [a0, a1] h R := ACalls.intoG k55 rfl hw
/-- datelineref.IsDate -/
def c29 : AC := (.seq (.reg [⟨(some 1), none, (.box 52 3 (.tmp 0))⟩, ⟨(some 2), none, (.mv (.const (.bool false)))⟩]) (.seq (.drw [⟨(some 3), none, (.fa 0 (.tmp 1))⟩, ⟨(some 4), none, (.load false 1 (.tmp 3))⟩, ⟨(some 5), none, (.call (.func 39) [(.tmp 4), (.const (.int .i64 1)), (.const (.int .i64 9999))])⟩, ⟨(some 6), none, (.mv (.tmp 5))⟩, ⟨(some 7), (some (6, true)), (.fa 1 (.tmp 1))⟩, ⟨(some 8), (some (6, true)), (.load false 1 (.tmp 7))⟩, ⟨(some 9), (some (6, true)), (.call (.func 39) [(.tmp 8), (.const (.int .i64 1)), (.const (.int .i64 12))])⟩, ⟨(some 10), none, (.pick (.tmp 6) (.tmp 9) (.const (.bool false)))⟩, ⟨(some 11), none, (.mv (.tmp 10))⟩, ⟨(some 12), (some (11, true)), (.fa 2 (.tmp 1))⟩, ⟨(some 13), (some (11, true)), (.load false 1 (.tmp 12))⟩, ⟨(some 14), (some (11, true)), (.fa 0 (.tmp 1))⟩, ⟨(some 15), (some (11, true)), (.load false 1 (.tmp 14))⟩, ⟨(some 16), (some (11, true)), (.fa 1 (.tmp 1))⟩, ⟨(some 17), (some (11, true)), (.load false 1 (.tmp 16))⟩, ⟨(some 18), (some (11, true)), (.call (.func 55) [(.tmp 15), (.tmp 17)])⟩, ⟨(some 19), (some (11, true)), (.call (.func 39) [(.tmp 13), (.const (.int .i64 1)), (.tmp 18)])⟩, ⟨(some 20), none, (.pick (.tmp 11) (.tmp 19) (.const (.bool false)))⟩, ⟨(some 2), none, (.mv (.tmp 20))⟩] [] []) .ret))
theorem k29 : compF Try.prog 29 = some ⟨c29, [(.tmp 2)], 21⟩ := by kernel_rfl
theorem i29 {a0 : AV} {h : AH} {R : AE → Prop} (hw : ∀ n, h.length = n → (∀ e ∈ h, e.lt n = true) → AV.ltL n [a0] = true → AV.bdL [a0] → aw Try.prog n c29 (retA [(.tmp 2)] fun x h' => ∃ z, h' = h ++ z ∧ x.lt n = true ∧ R x) [a0, .any, .any, .any, .any, .any, .any, .any, .any, .any, .any, .any, .any, .any, .any, .any, .any, .any, .any, .any, .any] (h ++ [])) : ACalls Try.prog 29 [a0] h fun x h' => h' = h ∧ R x := ACalls.into k29 rfl hw
theorem w29 {a0 : AV} {h : AH} {res : AV} (hw : ∀ n, h.length = n → (∀ e ∈ h, e.lt n = true) → AV.ltL n [a0] = true → AV.bdL [a0] → aw Try.prog n c29 (retA [(.tmp 2)] fun x h' => ∃ z, h' = h ++ z ∧ x.lt n = true ∧ ∃ c, x = .ret c ∧ Wk c res) [a0, .any, .any, .any, .any, .any, .any, .any, .any, .any, .any, .any, .any, .any, .any, .any, .any, .any, .any, .any, .any] (h ++ [])) : ACalls Try.prog 29 [a0] h fun x h' => h' = h ∧ x = .ret res := ACalls.weak (ACalls.into k29 rfl hw)
theorem n29 {a0 : AV} {h : AH} {R : AE → AH → Prop} (hw : ∀ n, h.length = n → (∀ e ∈ h, e.lt n = true) → AV.ltL n [a0] = true → AV.bdL [a0] → aw Try.prog n c29 (retA [(.tmp 2)] R) [a0, .any, .any, .any, .any, .any, .any, .any, .any, .any, .any, .any, .any, .any, .any, .any, .any, .any, .any, .any, .any] (h ++ [])) : ACalls Try.prog 29 [a0] h R := ACalls.intoN k29 rfl hw
theorem j29 {a0 : AV} {h : AH} {R : AE → AH → Prop} (hw : ∀ n, h.length = n → (∀ e ∈ h, e.lt n = true) → AV.ltL n [a0] = true → AV.bdL [a0] → aw Try.prog n c29 (retA [(.tmp 2)] fun x h' => ∃ y z, h' = y ++ z ∧ y.length = n ∧ (∀ e ∈ y, e.lt n = true) ∧ x.lt n = true ∧ R x y) [a0, .any, .any, .any, .any, .any, .any, .any, .any, .any, .any, .any, .any, .any, .any, .any, .any, .any, .any, .any, .any] (h ++ [])) : ACalls Try.prog 29 [a0] h R := ACalls.intoG k29 rfl hw
/-- datelineref.DateOf -/
def c57 : AC := (.seq (.reg [⟨(some 2), none, (.new 52 3 [(.v (.int .i64 0)), (.v (.int .i64 0)), (.v (.int .i64 0))])⟩]) (.seq (.reg [⟨(some 3), none, (.mv (.const (.int .i64 1)))⟩, ⟨(some 4), none, (.mv (.const (.int .i64 10000)))⟩]) (.seq (.block 0 (.loop (.seq (.seq (.reg [⟨(some 7), none, (.mv (.tmp 4))⟩, ⟨(some 8), none, (.mv (.tmp 3))⟩, ⟨(some 9), none, (.bin .sub (.tmp 7) (.tmp 8))⟩, ⟨(some 10), none, (.bin .gtr (.tmp 9) (.const (.int .i64 1)))⟩]) (.cond (.tmp 10) .skip (.exit 0))) (.block 1 (.seq (.reg [⟨(some 11), none, (.mv (.tmp 3))⟩, ⟨(some 12), none, (.mv (.tmp 4))⟩, ⟨(some 13), none, (.bin .add (.tmp 11) (.tmp 12))⟩, ⟨(some 14), none, (.bin .quo (.tmp 13) (.const (.int .i64 2)))⟩, ⟨(some 5), none, (.mv (.tmp 14))⟩]) (.seq (.reg [⟨(some 15), none, (.mv (.tmp 5))⟩, ⟨(some 16), none, (.build [(.v (.int .i64 0)), (.v (.int .i64 0)), (.v (.int .i64 0))] [(0, (1, (.tmp 15))), (1, (1, (.const (.int .i64 1)))), (2, (1, (.const (.int .i64 1))))])⟩, ⟨(some 17), none, (.call (.func 58) [(.tmp 16)])⟩, ⟨(some 18), none, (.mv (.tmp 0))⟩, ⟨(some 19), none, (.bin .leq (.tmp 17) (.tmp 18))⟩]) (.cond (.tmp 19) (.reg [⟨(some 20), none, (.mv (.tmp 5))⟩, ⟨(some 3), none, (.mv (.tmp 20))⟩]) (.reg [⟨(some 21), none, (.mv (.tmp 5))⟩, ⟨(some 4), none, (.mv (.tmp 21))⟩])))))))) (.seq (.reg [⟨(some 22), none, (.mv (.tmp 3))⟩, ⟨(some 23), none, (.build [(.v (.int .i64 0)), (.v (.int .i64 0)), (.v (.int .i64 0))] [(0, (1, (.tmp 22))), (1, (1, (.const (.int .i64 12)))), (2, (1, (.const (.int .i64 1))))])⟩, ⟨(some 6), none, (.new 52 3 [(.v (.int .i64 0)), (.v (.int .i64 0)), (.v (.int .i64 0))])⟩, ⟨none, none, (.store 3 (.tmp 6) (.tmp 23))⟩]) (.seq (.block 2 (.loop (.seq (.seq (.reg [⟨(some 24), none, (.load true 3 (.tmp 6))⟩, ⟨(some 25), none, (.call (.func 58) [(.tmp 24)])⟩, ⟨(some 26), none, (.mv (.tmp 0))⟩, ⟨(some 27), none, (.bin .gtr (.tmp 25) (.tmp 26))⟩]) (.cond (.tmp 27) .skip (.exit 2))) (.block 3 (.reg [⟨(some 28), none, (.fa 1 (.tmp 6))⟩, ⟨(some 29), none, (.load false 1 (.tmp 28))⟩, ⟨(some 30), none, (.bin .sub (.tmp 29) (.const (.int .i64 1)))⟩, ⟨(some 31), none, (.fa 1 (.tmp 6))⟩, ⟨none, none, (.store 1 (.tmp 31) (.tmp 30))⟩]))))) (.seq (.reg [⟨(some 32), none, (.mv (.tmp 0))⟩, ⟨(some 33), none, (.load true 3 (.tmp 6))⟩, ⟨(some 34), none, (.call (.func 58) [(.tmp 33)])⟩, ⟨(some 35), none, (.bin .sub (.tmp 32) (.tmp 34))⟩, ⟨(some 36), none, (.bin .add (.tmp 35) (.const (.int .i64 1)))⟩, ⟨(some 37), none, (.fa 2 (.tmp 6))⟩, ⟨none, none, (.store 1 (.tmp 37) (.tmp 36))⟩]) (.seq (.reg [⟨(some 38), none, (.load true 3 (.tmp 6))⟩, ⟨none, none, (.store 3 (.tmp 2) (.tmp 38))⟩]) .ret)))))))
theorem k57 : compF Try.prog 57 = some ⟨c57, [(.cell 2 true 3)], 39⟩ := by kernel_rfl
theorem i57 {a0 : AV} {h : AH} {R : AE → Prop} (hw : ∀ n, h.length = n → (∀ e ∈ h, e.lt n = true) → AV.ltL n [a0] = true → AV.bdL [a0] → aw Try.prog n c57 (retA [(.cell 2 true 3)] fun x h' => ∃ z, h' = h ++ z ∧ x.lt n = true ∧ R x) [a0, .any, .any, .any, .any, .any, .any, .any, .any, .any, .any, .any, .any, .any, .any, .any, .any, .any, .any, .any, .any, .any, .any, .any, .any, .any, .any, .any, .any, .any, .any, .any, .any, .any, .any, .any, .any, .any, .any] (h ++ [])) : ACalls Try.prog 57 [a0] h fun x h' => h' = h ∧ R x := ACalls.into k57 rfl hw
theorem w57 {a0 : AV} {h : AH} {res : AV} (hw : ∀ n, h.length = n → (∀ e ∈ h, e.lt n = true) → AV.ltL n [a0] = true → AV.bdL [a0] → aw Try.prog n c57 (retA [(.cell 2 true 3)] fun x h' => ∃ z, h' = h ++ z ∧ x.lt n = true ∧ ∃ c, x = .ret c ∧ Wk c res) [a0, .any, .any, .any, .any, .any, .any, .any, .any, .any, .any, .any, .any, .any, .any, .any, .any, .any, .any, .any, .any, .any, .any, .any, .any, .any, .any, .any, .any, .any, .any, .any, .any, .any, .any, .any, .any, .any, .any] (h ++ [])) : ACalls Try.prog 57 [a0] h fun x h' => h' = h ∧ x = .ret res := ACalls.weak (ACalls.into k57 rfl hw)
theorem n57 {a0 : AV} {h : AH} {R : AE → AH → Prop} (hw : ∀ n, h.length = n → (∀ e ∈ h, e.lt n = true) → AV.ltL n [a0] = true → AV.bdL [a0] → aw Try.prog n c57 (retA [(.cell 2 true 3)] R) [a0, .any, .any, .any, .any, .any, .any, .any, .any, .any, .any, .any, .any, .any, .any, .any, .any, .any, .any, .any, .any, .any, .any, .any, .any, .any, .any, .any, .any, .any, .any, .any, .any, .any, .any, .any, .any, .any, .any] (h ++ [])) : ACalls Try.prog 57 [a0] h R := ACalls.intoN k57 rfl hw
theorem j57 {a0 : AV} {h : AH} {R : AE → AH → Prop} (hw : ∀ n, h.length = n → (∀ e ∈ h, e.lt n = true) → AV.ltL n [a0] = true → AV.bdL [a0] → aw Try.prog n c57 (retA [(.cell 2 true 3)] fun x h' => ∃ y z, h' = y ++ z ∧ y.length = n ∧ (∀ e ∈ y, e.lt n = true) ∧ x.lt n = true ∧ R x y) [a0, .any, .any, .any, .any, .any, .any, .any, .any, .any, .any, .any, .any, .any, .any, .any, .any, .any, .any, .any, .any, .any, .any, .any, .any, .any, .any, .any, .any, .any, .any, .any, .any, .any, .any, .any, .any, .any, .any] (h ++ [])) : ACalls Try.prog 57 [a0] h R := ACalls.intoG k57 rfl hw
/-- datelineref.LookAt -/
def c56 : AC := (.seq (.reg [⟨(some 2), none, (.box 26 4 (.tmp 0))⟩, ⟨(some 4), none, (.new 23 3 [(.v (.int .i64 0)), (.v (.int .i64 0)), (.v (.string ⟨#[]⟩))])⟩]) (.seq (.reg [⟨(some 7), none, (.fa 0 (.tmp 2))⟩, ⟨(some 8), none, (.load true 3 (.tmp 7))⟩, ⟨(some 5), none, (.new 23 3 [(.v (.int .i64 0)), (.v (.int .i64 0)), (.v (.string ⟨#[]⟩))])⟩, ⟨none, none, (.store 3 (.tmp 5) (.tmp 8))⟩]) (.seq (.seq (.reg [⟨(some 6), none, (.mv (.const (.int .i64 0)))⟩]) (.block 0 (.loop (.seq (.seq (.reg [⟨(some 9), none, (.mv (.tmp 6))⟩, ⟨(some 10), none, (.fa 3 (.tmp 2))⟩, ⟨(some 11), none, (.load false 1 (.tmp 10))⟩, ⟨(some 12), none, (.len false (.tmp 11))⟩, ⟨(some 13), none, (.bin .lss (.tmp 9) (.tmp 12))⟩]) (.cond (.tmp 13) .skip (.exit 0))) (.seq (.block 1 (.seq (.reg [⟨(some 16), none, (.fa 3 (.tmp 2))⟩, ⟨(some 17), none, (.load false 1 (.tmp 16))⟩, ⟨(some 18), none, (.mv (.tmp 6))⟩, ⟨(some 19), none, (.ia 4 (.tmp 17) (.tmp 18))⟩, ⟨(some 20), none, (.fa 0 (.tmp 19))⟩, ⟨(some 21), none, (.load false 1 (.tmp 20))⟩, ⟨(some 22), none, (.mv (.tmp 1))⟩, ⟨(some 23), none, (.bin .leq (.tmp 21) (.tmp 22))⟩]) (.cond (.tmp 23) (.reg [⟨(some 24), none, (.fa 3 (.tmp 2))⟩, ⟨(some 25), none, (.load false 1 (.tmp 24))⟩, ⟨(some 26), none, (.mv (.tmp 6))⟩, ⟨(some 27), none, (.ia 4 (.tmp 25) (.tmp 26))⟩, ⟨(some 28), none, (.fa 1 (.tmp 27))⟩, ⟨(some 29), none, (.load true 3 (.tmp 28))⟩, ⟨none, none, (.store 3 (.tmp 5) (.tmp 29))⟩]) .skip))) (.reg [⟨(some 14), none, (.mv (.tmp 6))⟩, ⟨(some 15), none, (.bin .add (.tmp 14) (.const (.int .i64 1)))⟩, ⟨(some 6), none, (.mv (.tmp 15))⟩])))))) (.seq (.reg [⟨(some 30), none, (.load true 3 (.tmp 5))⟩, ⟨none, none, (.store 3 (.tmp 4) (.tmp 30))⟩]) .ret))))
theorem k56 : compF Try.prog 56 = some ⟨c56, [(.cell 4 true 3)], 31⟩ := by kernel_rfl
theorem i56 {a0 a1 : AV} {h : AH} {R : AE → Prop} (hw : ∀ n, h.length = n → (∀ e ∈ h, e.lt n = true) → AV.ltL n [a0, a1] = true → AV.bdL [a0, a1] → aw Try.prog n c56 (retA [(.cell 4 true 3)] fun x h' => ∃ z, h' = h ++ z ∧ x.lt n = true ∧ R x) [a0, a1, .any, .any, .any, .any, .any, .any, .any, .any, .any, .any, .any, .any, .any, .any, .any, .any, .any, .any, .any, .any, .any, .any, .any, .any, .any, .any, .any, .any, .any] (h ++ [])) : ACalls Try.prog 56 [a0, a1] h fun x h' => h' = h ∧ R x := ACalls.into k56 rfl hw
theorem w56 {a0 a1 : AV} {h : AH} {res : AV} (hw : ∀ n, h.length = n → (∀ e ∈ h, e.lt n = true) → AV.ltL n [a0, a1] = true → AV.bdL [a0, a1] → aw Try.prog n c56 (retA [(.cell 4 true 3)] fun x h' => ∃ z, h' = h ++ z ∧ x.lt n = true ∧ ∃ c, x = .ret c ∧ Wk c res) [a0, a1, .any, .any, .any, .any, .any, .any, .any, .any, .any, .any, .any, .any, .any, .any, .any, .any, .any, .any, .any, .any, .any, .any, .any, .any, .any, .any, .any, .any, .any] (h ++ [])) : ACalls Try.prog 56 [a0, a1] h fun x h' => h' = h ∧ x = .ret res := ACalls.weak (ACalls.into k56 rfl hw)
theorem n56 {a0 a1 : AV} {h : AH} {R : AE → AH → Prop} (hw : ∀ n, h.length = n → (∀ e ∈ h, e.lt n = true) → AV.ltL n [a0, a1] = true → AV.bdL [a0, a1] → aw Try.prog n c56 (retA [(.cell 4 true 3)] R) [a0, a1, .any, .any, .any, .any, .any, .any, .any, .any, .any, .any, .any, .any, .any, .any, .any, .any, .any, .any, .any, .any, .any, .any, .any, .any, .any, .any, .any, .any, .any] (h ++ [])) : ACalls Try.prog 56 [a0, a1] h R := ACalls.intoN k56 rfl hw
theorem j56 {a0 a1 : AV} {h : AH} {R : AE → AH → Prop} (hw : ∀ n, h.length = n → (∀ e ∈ h, e.lt n = true) → AV.ltL n [a0, a1] = true → AV.bdL [a0, a1] → aw Try.prog n c56 (retA [(.cell 4 true 3)] fun x h' => ∃ y z, h' = y ++ z ∧ y.length = n ∧ (∀ e ∈ y, e.lt n = true) ∧ x.lt n = true ∧ R x y) [a0, a1, .any, .any, .any, .any, .any, .any, .any, .any, .any, .any, .any, .any, .any, .any, .any, .any, .any, .any, .any, .any, .any, .any, .any, .any, .any, .any, .any, .any, .any] (h ++ [])) : ACalls Try.prog 56 [a0, a1] h R := ACalls.intoG k56 rfl hw
/-- datelineref.WallOf -/
def c30 : AC := (.seq (.reg [⟨(some 2), none, (.box 26 4 (.tmp 0))⟩, ⟨(some 4), none, (.new 52 3 [(.v (.int .i64 0)), (.v (.int .i64 0)), (.v (.int .i64 0))])⟩, ⟨(some 5), none, (.mv (.const (.int .i64 0)))⟩, ⟨(some 6), none, (.mv (.const (.int .i64 0)))⟩]) (.seq (.reg [⟨(some 9), none, (.mv (.tmp 1))⟩, ⟨(some 10), none, (.load true 4 (.tmp 2))⟩, ⟨(some 11), none, (.mv (.tmp 1))⟩, ⟨(some 12), none, (.call (.func 56) [(.tmp 10), (.tmp 11)])⟩, ⟨(some 13), none, (.fld false 0 1 (.tmp 12))⟩, ⟨(some 14), none, (.bin .add (.tmp 9) (.tmp 13))⟩, ⟨(some 7), none, (.mv (.tmp 14))⟩]) (.seq (.reg [⟨(some 15), none, (.mv (.tmp 7))⟩, ⟨(some 16), none, (.bin .quo (.tmp 15) (.const (.int .i64 86400)))⟩, ⟨(some 8), none, (.mv (.tmp 16))⟩]) (.seq (.block 0 (.loop (.seq (.seq (.reg [⟨(some 17), none, (.mv (.tmp 8))⟩, ⟨(some 18), none, (.bin .mul (.tmp 17) (.const (.int .i64 86400)))⟩, ⟨(some 19), none, (.mv (.tmp 7))⟩, ⟨(some 20), none, (.bin .gtr (.tmp 18) (.tmp 19))⟩]) (.cond (.tmp 20) .skip (.exit 0))) (.block 1 (.reg [⟨(some 21), none, (.mv (.tmp 8))⟩, ⟨(some 22), none, (.bin .sub (.tmp 21) (.const (.int .i64 1)))⟩, ⟨(some 8), none, (.mv (.tmp 22))⟩]))))) (.seq (.seq (.reg [⟨(some 23), none, (.mv (.tmp 8))⟩, ⟨(some 24), none, (.call (.func 53) [])⟩, ⟨(some 25), none, (.call (.func 54) [])⟩, ⟨(some 26), none, (.call (.func 39) [(.tmp 23), (.tmp 24), (.tmp 25)])⟩, ⟨(some 27), none, (.un .not (.tmp 26))⟩]) (.cond (.tmp 27) (.seq (.reg [⟨(some 28), none, (.build [(.v (.int .i64 0)), (.v (.int .i64 0)), (.v (.int .i64 0))] [])⟩, ⟨none, none, (.store 3 (.tmp 4) (.tmp 28))⟩, ⟨(some 5), none, (.mv (.const (.int .i64 0)))⟩, ⟨(some 6), none, (.mv (.const (.int .i64 3)))⟩]) .ret) .skip)) (.seq (.reg [⟨(some 29), none, (.mv (.tmp 8))⟩, ⟨(some 30), none, (.call (.func 57) [(.tmp 29)])⟩, ⟨(some 31), none, (.mv (.tmp 7))⟩, ⟨(some 32), none, (.mv (.tmp 8))⟩, ⟨(some 33), none, (.bin .mul (.tmp 32) (.const (.int .i64 86400)))⟩, ⟨(some 34), none, (.bin .sub (.tmp 31) (.tmp 33))⟩, ⟨none, none, (.store 3 (.tmp 4) (.tmp 30))⟩, ⟨(some 5), none, (.mv (.tmp 34))⟩, ⟨(some 6), none, (.mv (.const (.int .i64 0)))⟩]) .ret))))))
theorem k30 : compF Try.prog 30 = some ⟨c30, [(.cell 4 true 3), (.tmp 5), (.tmp 6)], 35⟩ := by kernel_rfl
theorem i30 {a0 a1 : AV} {h : AH} {R : AE → Prop} (hw : ∀ n, h.length = n → (∀ e ∈ h, e.lt n = true) → AV.ltL n [a0, a1] = true → AV.bdL [a0, a1] → aw Try.prog n c30 (retA [(.cell 4 true 3), (.tmp 5), (.tmp 6)] fun x h' => ∃ z, h' = h ++ z ∧ x.lt n = true ∧ R x) [a0, a1, .any, .any, .any, .any, .any, .any, .any, .any, .any, .any, .any, .any, .any, .any, .any, .any, .any, .any, .any, .any, .any, .any, .any, .any, .any, .any, .any, .any, .any, .any, .any, .any, .any] (h ++ [])) : ACalls Try.prog 30 [a0, a1] h fun x h' => h' = h ∧ R x := ACalls.into k30 rfl hw
theorem w30 {a0 a1 : AV} {h : AH} {res : AV} (hw : ∀ n, h.length = n → (∀ e ∈ h, e.lt n = true) → AV.ltL n [a0, a1] = true → AV.bdL [a0, a1] → aw Try.prog n c30 (retA [(.cell 4 true 3), (.tmp 5), (.tmp 6)] fun x h' => ∃ z, h' = h ++ z ∧ x.lt n = true ∧ ∃ c, x = .ret c ∧ Wk c res) [a0, a1, .any, .any, .any, .any, .any, .any, .any, .any, .any, .any, .any, .any, .any, .any, .any, .any, .any, .any, .any, .any, .any, .any, .any, .any, .any, .any, .any, .any, .any, .any, .any, .any, .any] (h ++ [])) : ACalls Try.prog 30 [a0, a1] h fun x h' => h' = h ∧ x = .ret res := ACalls.weak (ACalls.into k30 rfl hw)
theorem n30 {a0 a1 : AV} {h : AH} {R : AE → AH → Prop} (hw : ∀ n, h.length = n → (∀ e ∈ h, e.lt n = true) → AV.ltL n [a0, a1] = true → AV.bdL [a0, a1] → aw Try.prog n c30 (retA [(.cell 4 true 3), (.tmp 5), (.tmp 6)] R) [a0, a1, .any, .any, .any, .any, .any, .any, .any, .any, .any, .any, .any, .any, .any, .any, .any, .any, .any, .any, .any, .any, .any, .any, .any, .any, .any, .any, .any, .any, .any, .any, .any, .any, .any] (h ++ [])) : ACalls Try.prog 30 [a0, a1] h R := ACalls.intoN k30 rfl hw
theorem j30 {a0 a1 : AV} {h : AH} {R : AE → AH → Prop} (hw : ∀ n, h.length = n → (∀ e ∈ h, e.lt n = true) → AV.ltL n [a0, a1] = true → AV.bdL [a0, a1] → aw Try.prog n c30 (retA [(.cell 4 true 3), (.tmp 5), (.tmp 6)] fun x h' => ∃ y z, h' = y ++ z ∧ y.length = n ∧ (∀ e ∈ y, e.lt n = true) ∧ x.lt n = true ∧ R x y) [a0, a1, .any, .any, .any, .any, .any, .any, .any, .any, .any, .any, .any, .any, .any, .any, .any, .any, .any, .any, .any, .any, .any, .any, .any, .any, .any, .any, .any, .any, .any, .any, .any, .any, .any] (h ++ [])) : ACalls Try.prog 30 [a0, a1] h R := ACalls.intoG k30 rfl hw
/-- datelineref.SameInts -/
def c33 : AC := (.seq (.reg [⟨(some 4), none, (.mv (.const (.bool false)))⟩]) (.seq (.seq (.reg [⟨(some 6), none, (.mv (.tmp 0))⟩, ⟨(some 7), none, (.len false (.tmp 6))⟩, ⟨(some 8), none, (.mv (.tmp 1))⟩, ⟨(some 9), none, (.len false (.tmp 8))⟩, ⟨(some 10), none, (.bin .neq (.tmp 7) (.tmp 9))⟩]) (.cond (.tmp 10) (.seq (.reg [⟨(some 4), none, (.mv (.const (.bool false)))⟩]) .ret) .skip)) (.seq (.seq (.reg [⟨(some 5), none, (.mv (.const (.int .i64 0)))⟩]) (.block 0 (.loop (.seq (.seq (.reg [⟨(some 11), none, (.mv (.tmp 5))⟩, ⟨(some 12), none, (.mv (.tmp 0))⟩, ⟨(some 13), none, (.len false (.tmp 12))⟩, ⟨(some 14), none, (.bin .lss (.tmp 11) (.tmp 13))⟩]) (.cond (.tmp 14) .skip (.exit 0))) (.seq (.block 1 (.seq (.drw [⟨(some 17), none, (.mv (.tmp 0))⟩, ⟨(some 18), none, (.mv (.tmp 5))⟩, ⟨(some 19), none, (.ia 1 (.tmp 17) (.tmp 18))⟩, ⟨(some 20), none, (.load false 1 (.tmp 19))⟩, ⟨(some 21), none, (.mv (.tmp 1))⟩, ⟨(some 22), none, (.mv (.tmp 5))⟩, ⟨(some 23), none, (.ia 1 (.tmp 21) (.tmp 22))⟩, ⟨(some 24), none, (.load false 1 (.tmp 23))⟩, ⟨(some 25), none, (.bin .neq (.tmp 20) (.tmp 24))⟩] [] []) (.cond (.tmp 25) (.seq (.reg [⟨(some 4), none, (.mv (.const (.bool false)))⟩]) .ret) .skip))) (.reg [⟨(some 15), none, (.mv (.tmp 5))⟩, ⟨(some 16), none, (.bin .add (.tmp 15) (.const (.int .i64 1)))⟩, ⟨(some 5), none, (.mv (.tmp 16))⟩])))))) (.seq (.reg [⟨(some 4), none, (.mv (.const (.bool true)))⟩]) .ret))))
theorem k33 : compF Try.prog 33 = some ⟨c33, [(.tmp 4)], 26⟩ := by kernel_rfl
theorem i33 {a0 a1 : AV} {h : AH} {R : AE → Prop} (hw : ∀ n, h.length = n → (∀ e ∈ h, e.lt n = true) → AV.ltL n [a0, a1] = true → AV.bdL [a0, a1] → aw Try.prog n c33 (retA [(.tmp 4)] fun x h' => ∃ z, h' = h ++ z ∧ x.lt n = true ∧ R x) [a0, a1, .any, .any, .any, .any, .any, .any, .any, .any, .any, .any, .any, .any, .any, .any, .any, .any, .any, .any, .any, .any, .any, .any, .any, .any] (h ++ [])) : ACalls Try.prog 33 [a0, a1] h fun x h' => h' = h ∧ R x := ACalls.into k33 rfl hw
theorem w33 {a0 a1 : AV} {h : AH} {res : AV} (hw : ∀ n, h.length = n → (∀ e ∈ h, e.lt n = true) → AV.ltL n [a0, a1] = true → AV.bdL [a0, a1] → aw Try.prog n c33 (retA [(.tmp 4)] fun x h' => ∃ z, h' = h ++ z ∧ x.lt n = true ∧ ∃ c, x = .ret c ∧ Wk c res) [a0, a1, .any, .any, .any, .any, .any, .any, .any, .any, .any, .any, .any, .any, .any, .any, .any, .any, .any, .any, .any, .any, .any, .any, .any, .any] (h ++ [])) : ACalls Try.prog 33 [a0, a1] h fun x h' => h' = h ∧ x = .ret res := ACalls.weak (ACalls.into k33 rfl hw)
theorem n33 {a0 a1 : AV} {h : AH} {R : AE → AH → Prop} (hw : ∀ n, h.length = n → (∀ e ∈ h, e.lt n = true) → AV.ltL n [a0, a1] = true → AV.bdL [a0, a1] → aw Try.prog n c33 (retA [(.tmp 4)] R) [a0, a1, .any, .any, .any, .any, .any, .any, .any, .any, .any, .any, .any, .any, .any, .any, .any, .any, .any, .any, .any, .any, .any, .any, .any, .any] (h ++ [])) : ACalls Try.prog 33 [a0, a1] h R := ACalls.intoN k33 rfl hw
theorem j33 {a0 a1 : AV} {h : AH} {R : AE → AH → Prop} (hw : ∀ n, h.length = n → (∀ e ∈ h, e.lt n = true) → AV.ltL n [a0, a1] = true → AV.bdL [a0, a1] → aw Try.prog n c33 (retA [(.tmp 4)] fun x h' => ∃ y z, h' = y ++ z ∧ y.length = n ∧ (∀ e ∈ y, e.lt n = true) ∧ x.lt n = true ∧ R x y) [a0, a1, .any, .any, .any, .any, .any, .any, .any, .any, .any, .any, .any, .any, .any, .any, .any, .any, .any, .any, .any, .any, .any, .any, .any, .any] (h ++ [])) : ACalls Try.prog 33 [a0, a1] h R := ACalls.intoG k33 rfl hw
theorem risLeap_a {y : Int} {h : AH} (h0 : 0 ≤ y) (h1 : y ≤ 1000000) : ACalls Try.prog 75 [iv y] h fun x h' => h' = h ∧ x = .ret (bv (leapB y)) := by
  refine i75 ?_
  intro N hn hlt hlA hbd
  try simp only [AV.bdL, AV.bd, and_true, true_and] at hbd
  refine w_seq ?_
  refine w_reg ?_
  refine s_val rfl (v_mv lkb) pt2 ?_
  refine s_nil ?_
  refine n_seq ?_
  refine w_seq ?_
  refine w_reg ?_
  refine s_val rfl (v_mv lk0) pt3 ?_
  refine s_val rfl (v_rem lk3 lki (by omega) (by omega)) pt4 ?_
  refine s_val rfl (v_eql lk4 lki) pt5 ?_
  refine s_val rfl (v_mv lk5) pt6 ?_
  first | refine s_splitP gt6 pt6 pt6 (fun hg6 => ?_) (fun hg6 => ?_) | refine s_splitB gt6 pt6 pt6 (fun hg6 => ?_) (fun hg6 => ?_)
  · skip
    refine s_no gt6 pt7 ?_
    refine s_no gt6 pt8 ?_
    refine s_no gt6 pt9 ?_
    refine s_no gt6 pt10 ?_
    refine s_nu gt10 pt11 ?_
    refine s_nu gt10 pt12 ?_
    refine s_nu gt10 pt13 ?_
    refine s_no gt6 pt14 ?_
    refine s_val rfl (v_pickT lk6 lkb) pt15 ?_
    refine s_val rfl (v_mv lk15) pt2 ?_
    refine s_nil ?_
    refine n_seq ?_
    refine w_rets ?_
    refine w_ret (rs1 (rr_t gt2)) ?_
    refine rt (by first | rfl | (simp only [AV.lt, AV.ltL, Ent.lt, List.all_cons, List.all_nil, Bool.and_true, Bool.and_self, decide_true, chg_lt, nm_lt, int_lt]; done) | (simp [AV.lt, AV.ltL, Ent.lt, chg_lt, nm_lt, int_lt, *]; done) | (simp [AV.lt, AV.ltL, Ent.lt, chg_lt, nm_lt, int_lt, *]; omega)) ?_
    refine bvx ?_; rw [Bool.eq_iff_iff]; unfold leapB; simp at *; omega
  · skip
    refine s_do gt6 ?_
    refine s_val rfl (v_mv lk0) pt7 ?_
    refine s_do gt6 ?_
    refine s_val rfl (v_rem lk7 lki (by omega) (by omega)) pt8 ?_
    refine s_do gt6 ?_
    refine s_val rfl (v_eql lk8 lki) pt9 ?_
    refine s_do gt6 ?_
    refine s_val rfl (v_mv lk9) pt10 ?_
    first | refine s_splitP gt10 pt10 pt10 (fun hg10 => ?_) (fun hg10 => ?_) | refine s_splitB gt10 pt10 pt10 (fun hg10 => ?_) (fun hg10 => ?_)
    · skip
      refine s_do gt10 ?_
      refine s_val rfl (v_mv lk0) pt11 ?_
      refine s_do gt10 ?_
      refine s_val rfl (v_rem lk11 lki (by omega) (by omega)) pt12 ?_
      refine s_do gt10 ?_
      refine s_val rfl (v_neq lk12 lki) pt13 ?_
      refine s_do gt6 ?_
      refine s_val rfl (v_pickT lk10 lk13) pt14 ?_
      refine s_val rfl (v_pickF lk6 lk14) pt15 ?_
      refine s_val rfl (v_mv lk15) pt2 ?_
      refine s_nil ?_
      refine n_seq ?_
      refine w_rets ?_
      refine w_ret (rs1 (rr_t gt2)) ?_
      refine rt (by first | rfl | (simp only [AV.lt, AV.ltL, Ent.lt, List.all_cons, List.all_nil, Bool.and_true, Bool.and_self, decide_true, chg_lt, nm_lt, int_lt]; done) | (simp [AV.lt, AV.ltL, Ent.lt, chg_lt, nm_lt, int_lt, *]; done) | (simp [AV.lt, AV.ltL, Ent.lt, chg_lt, nm_lt, int_lt, *]; omega)) ?_
      refine bvx ?_; rw [Bool.eq_iff_iff]; unfold leapB; simp at *; omega
    · skip
      refine s_no gt10 pt11 ?_
      refine s_no gt10 pt12 ?_
      refine s_no gt10 pt13 ?_
      refine s_do gt6 ?_
      refine s_val rfl (v_pickF lk10 lkb) pt14 ?_
      refine s_val rfl (v_pickF lk6 lk14) pt15 ?_
      refine s_val rfl (v_mv lk15) pt2 ?_
      refine s_nil ?_
      refine n_seq ?_
      refine w_rets ?_
      refine w_ret (rs1 (rr_t gt2)) ?_
      refine rt (by first | rfl | (simp only [AV.lt, AV.ltL, Ent.lt, List.all_cons, List.all_nil, Bool.and_true, Bool.and_self, decide_true, chg_lt, nm_lt, int_lt]; done) | (simp [AV.lt, AV.ltL, Ent.lt, chg_lt, nm_lt, int_lt, *]; done) | (simp [AV.lt, AV.ltL, Ent.lt, chg_lt, nm_lt, int_lt, *]; omega)) ?_
      refine bvx ?_; rw [Bool.eq_iff_iff]; unfold leapB; simp at *; omega
theorem rmonthLength_a {y m : Int} {h : AH} (h0 : 0 ≤ y) (hy : y ≤ 1000000) : ACalls Try.prog 55 [iv y, iv m] h fun x h' => h' = h ∧ x = .ret (iv (mlen y m)) := by
  refine i55 ?_
  intro N hn hlt hlA hbd
  try simp only [AV.bdL, AV.bd, and_true, true_and] at hbd
  refine w_seq ?_
  refine w_reg ?_
  refine s_val rfl (v_mv lki) pt4 ?_
  refine s_nil ?_
  refine n_seq ?_
  refine w_seq ?_
  refine w_seq ?_
  refine w_reg ?_
  refine s_val rfl (v_mv lk1) pt5 ?_
  refine s_nil ?_
  refine n_seq ?_
  refine w_block ?_
  refine w_seq ?_
  refine w_seq ?_
  refine w_reg ?_
  refine s_val rfl (v_eql lk5 lki) pt7 ?_
  refine s_val rfl (v_mv lk7) pt6 ?_
  refine s_nil ?_
  refine n_seq ?_
  first | refine w_cond lk6 (fun hc1 => ?_) (fun hc1 => ?_) | refine w_condB lk6 (fun hc1 => ?_) (fun hc1 => ?_)
  · skip
    refine w_skip ?_
    refine n_seq ?_
    first | refine w_cond lk6 (fun hc4 => ?_) (fun hc4 => ?_) | refine w_condB lk6 (fun hc4 => ?_) (fun hc4 => ?_)
    · skip
      refine w_seq ?_
      refine w_reg ?_
      refine s_val rfl (v_mv lki) pt4 ?_
      refine s_nil ?_
      refine n_seq ?_
      refine w_rets ?_
      refine r_blk ?_
      refine r_thn ?_
      refine w_ret (rs1 (rr_t gt4)) ?_
      refine rt (by first | rfl | (simp only [AV.lt, AV.ltL, Ent.lt, List.all_cons, List.all_nil, Bool.and_true, Bool.and_self, decide_true, chg_lt, nm_lt, int_lt]; done) | (simp [AV.lt, AV.ltL, Ent.lt, chg_lt, nm_lt, int_lt, *]; done) | (simp [AV.lt, AV.ltL, Ent.lt, chg_lt, nm_lt, int_lt, *]; omega)) ?_
      refine ivx ?_; unfold mlen lp; simp_all
    · skip
      refine w_seq ?_
      refine w_reg ?_
      refine s_val rfl (v_eql lk5 lki) pt12 ?_
      refine s_val rfl (v_mv lk12) pt11 ?_
      refine s_nil ?_
      refine n_seq ?_
      first | refine w_cond lk11 (fun hc5 => ?_) (fun hc5 => ?_) | refine w_condB lk11 (fun hc5 => ?_) (fun hc5 => ?_)
      · skip
        refine w_seq ?_
        refine w_seq ?_
        refine w_reg ?_
        refine s_val rfl (v_mv lk0) pt13 ?_
        refine s_callp (mp1 lk13 mp0) (risLeap_a h0 hy) pt14 ?_
        refine s_nil ?_
        refine n_seq ?_
        refine w_condB lk14 (fun hc6 => ?_) (fun hc6 => ?_)
        · skip
          refine w_seq ?_
          refine w_reg ?_
          refine s_val rfl (v_mv lki) pt4 ?_
          refine s_nil ?_
          refine n_seq ?_
          refine w_rets ?_
          refine r_thn ?_
          refine r_blk ?_
          refine r_thn ?_
          refine w_ret (rs1 (rr_t gt4)) ?_
          refine rt (by first | rfl | (simp only [AV.lt, AV.ltL, Ent.lt, List.all_cons, List.all_nil, Bool.and_true, Bool.and_self, decide_true, chg_lt, nm_lt, int_lt]; done) | (simp [AV.lt, AV.ltL, Ent.lt, chg_lt, nm_lt, int_lt, *]; done) | (simp [AV.lt, AV.ltL, Ent.lt, chg_lt, nm_lt, int_lt, *]; omega)) ?_
          refine ivx ?_; unfold mlen lp; simp_all
        · skip
          refine w_skip ?_
          refine n_seq ?_
          refine w_seq ?_
          refine w_reg ?_
          refine s_val rfl (v_mv lki) pt4 ?_
          refine s_nil ?_
          refine n_seq ?_
          refine w_rets ?_
          refine r_blk ?_
          refine r_thn ?_
          refine w_ret (rs1 (rr_t gt4)) ?_
          refine rt (by first | rfl | (simp only [AV.lt, AV.ltL, Ent.lt, List.all_cons, List.all_nil, Bool.and_true, Bool.and_self, decide_true, chg_lt, nm_lt, int_lt]; done) | (simp [AV.lt, AV.ltL, Ent.lt, chg_lt, nm_lt, int_lt, *]; done) | (simp [AV.lt, AV.ltL, Ent.lt, chg_lt, nm_lt, int_lt, *]; omega)) ?_
          refine ivx ?_; unfold mlen lp; simp_all
      · skip
        refine w_skip ?_
        refine n_blk ?_
        refine n_seq ?_
        refine w_seq ?_
        refine w_reg ?_
        refine s_val rfl (v_mv lki) pt4 ?_
        refine s_nil ?_
        refine n_seq ?_
        refine w_rets ?_
        refine w_ret (rs1 (rr_t gt4)) ?_
        refine rt (by first | rfl | (simp only [AV.lt, AV.ltL, Ent.lt, List.all_cons, List.all_nil, Bool.and_true, Bool.and_self, decide_true, chg_lt, nm_lt, int_lt]; done) | (simp [AV.lt, AV.ltL, Ent.lt, chg_lt, nm_lt, int_lt, *]; done) | (simp [AV.lt, AV.ltL, Ent.lt, chg_lt, nm_lt, int_lt, *]; omega)) ?_
        refine ivx ?_; unfold mlen lp; simp_all
  · skip
    refine w_seq ?_
    refine w_reg ?_
    refine s_val rfl (v_eql lk5 lki) pt8 ?_
    refine s_val rfl (v_mv lk8) pt6 ?_
    refine s_nil ?_
    refine n_seq ?_
    first | refine w_cond lk6 (fun hc2 => ?_) (fun hc2 => ?_) | refine w_condB lk6 (fun hc2 => ?_) (fun hc2 => ?_)
    · skip
      refine w_skip ?_
      refine n_seq ?_
      first | refine w_cond lk6 (fun hc4 => ?_) (fun hc4 => ?_) | refine w_condB lk6 (fun hc4 => ?_) (fun hc4 => ?_)
      · skip
        refine w_seq ?_
        refine w_reg ?_
        refine s_val rfl (v_mv lki) pt4 ?_
        refine s_nil ?_
        refine n_seq ?_
        refine w_rets ?_
        refine r_blk ?_
        refine r_thn ?_
        refine w_ret (rs1 (rr_t gt4)) ?_
        refine rt (by first | rfl | (simp only [AV.lt, AV.ltL, Ent.lt, List.all_cons, List.all_nil, Bool.and_true, Bool.and_self, decide_true, chg_lt, nm_lt, int_lt]; done) | (simp [AV.lt, AV.ltL, Ent.lt, chg_lt, nm_lt, int_lt, *]; done) | (simp [AV.lt, AV.ltL, Ent.lt, chg_lt, nm_lt, int_lt, *]; omega)) ?_
        refine ivx ?_; unfold mlen lp; simp_all
      · skip
        refine w_seq ?_
        refine w_reg ?_
        refine s_val rfl (v_eql lk5 lki) pt12 ?_
        refine s_val rfl (v_mv lk12) pt11 ?_
        refine s_nil ?_
        refine n_seq ?_
        first | refine w_cond lk11 (fun hc5 => ?_) (fun hc5 => ?_) | refine w_condB lk11 (fun hc5 => ?_) (fun hc5 => ?_)
        · skip
          refine w_seq ?_
          refine w_seq ?_
          refine w_reg ?_
          refine s_val rfl (v_mv lk0) pt13 ?_
          refine s_callp (mp1 lk13 mp0) (risLeap_a h0 hy) pt14 ?_
          refine s_nil ?_
          refine n_seq ?_
          refine w_condB lk14 (fun hc6 => ?_) (fun hc6 => ?_)
          · skip
            refine w_seq ?_
            refine w_reg ?_
            refine s_val rfl (v_mv lki) pt4 ?_
            refine s_nil ?_
            refine n_seq ?_
            refine w_rets ?_
            refine r_thn ?_
            refine r_blk ?_
            refine r_thn ?_
            refine w_ret (rs1 (rr_t gt4)) ?_
            refine rt (by first | rfl | (simp only [AV.lt, AV.ltL, Ent.lt, List.all_cons, List.all_nil, Bool.and_true, Bool.and_self, decide_true, chg_lt, nm_lt, int_lt]; done) | (simp [AV.lt, AV.ltL, Ent.lt, chg_lt, nm_lt, int_lt, *]; done) | (simp [AV.lt, AV.ltL, Ent.lt, chg_lt, nm_lt, int_lt, *]; omega)) ?_
            refine ivx ?_; unfold mlen lp; simp_all
          · skip
            refine w_skip ?_
            refine n_seq ?_
            refine w_seq ?_
            refine w_reg ?_
            refine s_val rfl (v_mv lki) pt4 ?_
            refine s_nil ?_
            refine n_seq ?_
            refine w_rets ?_
            refine r_blk ?_
            refine r_thn ?_
            refine w_ret (rs1 (rr_t gt4)) ?_
            refine rt (by first | rfl | (simp only [AV.lt, AV.ltL, Ent.lt, List.all_cons, List.all_nil, Bool.and_true, Bool.and_self, decide_true, chg_lt, nm_lt, int_lt]; done) | (simp [AV.lt, AV.ltL, Ent.lt, chg_lt, nm_lt, int_lt, *]; done) | (simp [AV.lt, AV.ltL, Ent.lt, chg_lt, nm_lt, int_lt, *]; omega)) ?_
            refine ivx ?_; unfold mlen lp; simp_all
        · skip
          refine w_skip ?_
          refine n_blk ?_
          refine n_seq ?_
          refine w_seq ?_
          refine w_reg ?_
          refine s_val rfl (v_mv lki) pt4 ?_
          refine s_nil ?_
          refine n_seq ?_
          refine w_rets ?_
          refine w_ret (rs1 (rr_t gt4)) ?_
          refine rt (by first | rfl | (simp only [AV.lt, AV.ltL, Ent.lt, List.all_cons, List.all_nil, Bool.and_true, Bool.and_self, decide_true, chg_lt, nm_lt, int_lt]; done) | (simp [AV.lt, AV.ltL, Ent.lt, chg_lt, nm_lt, int_lt, *]; done) | (simp [AV.lt, AV.ltL, Ent.lt, chg_lt, nm_lt, int_lt, *]; omega)) ?_
          refine ivx ?_; unfold mlen lp; simp_all
    · skip
      refine w_seq ?_
      refine w_reg ?_
      refine s_val rfl (v_eql lk5 lki) pt9 ?_
      refine s_val rfl (v_mv lk9) pt6 ?_
      refine s_nil ?_
      refine n_seq ?_
      first | refine w_cond lk6 (fun hc3 => ?_) (fun hc3 => ?_) | refine w_condB lk6 (fun hc3 => ?_) (fun hc3 => ?_)
      · skip
        refine w_skip ?_
        refine n_seq ?_
        first | refine w_cond lk6 (fun hc4 => ?_) (fun hc4 => ?_) | refine w_condB lk6 (fun hc4 => ?_) (fun hc4 => ?_)
        · skip
          refine w_seq ?_
          refine w_reg ?_
          refine s_val rfl (v_mv lki) pt4 ?_
          refine s_nil ?_
          refine n_seq ?_
          refine w_rets ?_
          refine r_blk ?_
          refine r_thn ?_
          refine w_ret (rs1 (rr_t gt4)) ?_
          refine rt (by first | rfl | (simp only [AV.lt, AV.ltL, Ent.lt, List.all_cons, List.all_nil, Bool.and_true, Bool.and_self, decide_true, chg_lt, nm_lt, int_lt]; done) | (simp [AV.lt, AV.ltL, Ent.lt, chg_lt, nm_lt, int_lt, *]; done) | (simp [AV.lt, AV.ltL, Ent.lt, chg_lt, nm_lt, int_lt, *]; omega)) ?_
          refine ivx ?_; unfold mlen lp; simp_all
        · skip
          refine w_seq ?_
          refine w_reg ?_
          refine s_val rfl (v_eql lk5 lki) pt12 ?_
          refine s_val rfl (v_mv lk12) pt11 ?_
          refine s_nil ?_
          refine n_seq ?_
          first | refine w_cond lk11 (fun hc5 => ?_) (fun hc5 => ?_) | refine w_condB lk11 (fun hc5 => ?_) (fun hc5 => ?_)
          · skip
            refine w_seq ?_
            refine w_seq ?_
            refine w_reg ?_
            refine s_val rfl (v_mv lk0) pt13 ?_
            refine s_callp (mp1 lk13 mp0) (risLeap_a h0 hy) pt14 ?_
            refine s_nil ?_
            refine n_seq ?_
            refine w_condB lk14 (fun hc6 => ?_) (fun hc6 => ?_)
            · skip
              refine w_seq ?_
              refine w_reg ?_
              refine s_val rfl (v_mv lki) pt4 ?_
              refine s_nil ?_
              refine n_seq ?_
              refine w_rets ?_
              refine r_thn ?_
              refine r_blk ?_
              refine r_thn ?_
              refine w_ret (rs1 (rr_t gt4)) ?_
              refine rt (by first | rfl | (simp only [AV.lt, AV.ltL, Ent.lt, List.all_cons, List.all_nil, Bool.and_true, Bool.and_self, decide_true, chg_lt, nm_lt, int_lt]; done) | (simp [AV.lt, AV.ltL, Ent.lt, chg_lt, nm_lt, int_lt, *]; done) | (simp [AV.lt, AV.ltL, Ent.lt, chg_lt, nm_lt, int_lt, *]; omega)) ?_
              refine ivx ?_; unfold mlen lp; simp_all
            · skip
              refine w_skip ?_
              refine n_seq ?_
              refine w_seq ?_
              refine w_reg ?_
              refine s_val rfl (v_mv lki) pt4 ?_
              refine s_nil ?_
              refine n_seq ?_
              refine w_rets ?_
              refine r_blk ?_
              refine r_thn ?_
              refine w_ret (rs1 (rr_t gt4)) ?_
              refine rt (by first | rfl | (simp only [AV.lt, AV.ltL, Ent.lt, List.all_cons, List.all_nil, Bool.and_true, Bool.and_self, decide_true, chg_lt, nm_lt, int_lt]; done) | (simp [AV.lt, AV.ltL, Ent.lt, chg_lt, nm_lt, int_lt, *]; done) | (simp [AV.lt, AV.ltL, Ent.lt, chg_lt, nm_lt, int_lt, *]; omega)) ?_
              refine ivx ?_; unfold mlen lp; simp_all
          · skip
            refine w_skip ?_
            refine n_blk ?_
            refine n_seq ?_
            refine w_seq ?_
            refine w_reg ?_
            refine s_val rfl (v_mv lki) pt4 ?_
            refine s_nil ?_
            refine n_seq ?_
            refine w_rets ?_
            refine w_ret (rs1 (rr_t gt4)) ?_
            refine rt (by first | rfl | (simp only [AV.lt, AV.ltL, Ent.lt, List.all_cons, List.all_nil, Bool.and_true, Bool.and_self, decide_true, chg_lt, nm_lt, int_lt]; done) | (simp [AV.lt, AV.ltL, Ent.lt, chg_lt, nm_lt, int_lt, *]; done) | (simp [AV.lt, AV.ltL, Ent.lt, chg_lt, nm_lt, int_lt, *]; omega)) ?_
            refine ivx ?_; unfold mlen lp; simp_all
      · skip
        refine w_reg ?_
        refine s_val rfl (v_eql lk5 lki) pt10 ?_
        refine s_val rfl (v_mv lk10) pt6 ?_
        refine s_nil ?_
        refine n_seq ?_
        first | refine w_cond lk6 (fun hc4 => ?_) (fun hc4 => ?_) | refine w_condB lk6 (fun hc4 => ?_) (fun hc4 => ?_)
        · skip
          refine w_seq ?_
          refine w_reg ?_
          refine s_val rfl (v_mv lki) pt4 ?_
          refine s_nil ?_
          refine n_seq ?_
          refine w_rets ?_
          refine r_blk ?_
          refine r_thn ?_
          refine w_ret (rs1 (rr_t gt4)) ?_
          refine rt (by first | rfl | (simp only [AV.lt, AV.ltL, Ent.lt, List.all_cons, List.all_nil, Bool.and_true, Bool.and_self, decide_true, chg_lt, nm_lt, int_lt]; done) | (simp [AV.lt, AV.ltL, Ent.lt, chg_lt, nm_lt, int_lt, *]; done) | (simp [AV.lt, AV.ltL, Ent.lt, chg_lt, nm_lt, int_lt, *]; omega)) ?_
          refine ivx ?_; unfold mlen lp; simp_all
        · skip
          refine w_seq ?_
          refine w_reg ?_
          refine s_val rfl (v_eql lk5 lki) pt12 ?_
          refine s_val rfl (v_mv lk12) pt11 ?_
          refine s_nil ?_
          refine n_seq ?_
          first | refine w_cond lk11 (fun hc5 => ?_) (fun hc5 => ?_) | refine w_condB lk11 (fun hc5 => ?_) (fun hc5 => ?_)
          · skip
            refine w_seq ?_
            refine w_seq ?_
            refine w_reg ?_
            refine s_val rfl (v_mv lk0) pt13 ?_
            refine s_callp (mp1 lk13 mp0) (risLeap_a h0 hy) pt14 ?_
            refine s_nil ?_
            refine n_seq ?_
            refine w_condB lk14 (fun hc6 => ?_) (fun hc6 => ?_)
            · skip
              refine w_seq ?_
              refine w_reg ?_
              refine s_val rfl (v_mv lki) pt4 ?_
              refine s_nil ?_
              refine n_seq ?_
              refine w_rets ?_
              refine r_thn ?_
              refine r_blk ?_
              refine r_thn ?_
              refine w_ret (rs1 (rr_t gt4)) ?_
              refine rt (by first | rfl | (simp only [AV.lt, AV.ltL, Ent.lt, List.all_cons, List.all_nil, Bool.and_true, Bool.and_self, decide_true, chg_lt, nm_lt, int_lt]; done) | (simp [AV.lt, AV.ltL, Ent.lt, chg_lt, nm_lt, int_lt, *]; done) | (simp [AV.lt, AV.ltL, Ent.lt, chg_lt, nm_lt, int_lt, *]; omega)) ?_
              refine ivx ?_; unfold mlen lp; simp_all
            · skip
              refine w_skip ?_
              refine n_seq ?_
              refine w_seq ?_
              refine w_reg ?_
              refine s_val rfl (v_mv lki) pt4 ?_
              refine s_nil ?_
              refine n_seq ?_
              refine w_rets ?_
              refine r_blk ?_
              refine r_thn ?_
              refine w_ret (rs1 (rr_t gt4)) ?_
              refine rt (by first | rfl | (simp only [AV.lt, AV.ltL, Ent.lt, List.all_cons, List.all_nil, Bool.and_true, Bool.and_self, decide_true, chg_lt, nm_lt, int_lt]; done) | (simp [AV.lt, AV.ltL, Ent.lt, chg_lt, nm_lt, int_lt, *]; done) | (simp [AV.lt, AV.ltL, Ent.lt, chg_lt, nm_lt, int_lt, *]; omega)) ?_
              refine ivx ?_; unfold mlen lp; simp_all
          · skip
            refine w_skip ?_
            refine n_blk ?_
            refine n_seq ?_
            refine w_seq ?_
            refine w_reg ?_
            refine s_val rfl (v_mv lki) pt4 ?_
            refine s_nil ?_
            refine n_seq ?_
            refine w_rets ?_
            refine w_ret (rs1 (rr_t gt4)) ?_
            refine rt (by first | rfl | (simp only [AV.lt, AV.ltL, Ent.lt, List.all_cons, List.all_nil, Bool.and_true, Bool.and_self, decide_true, chg_lt, nm_lt, int_lt]; done) | (simp [AV.lt, AV.ltL, Ent.lt, chg_lt, nm_lt, int_lt, *]; done) | (simp [AV.lt, AV.ltL, Ent.lt, chg_lt, nm_lt, int_lt, *]; omega)) ?_
            refine ivx ?_; unfold mlen lp; simp_all
theorem risDate_a {y m d : Int} {h : AH} : ACalls Try.prog 29 [.agg [iv y, iv m, iv d]] h fun x h' => h' = h ∧ x = .ret (bv (isDate y m d)) := by
  refine i29 ?_
  intro N hn hlt hlA hbd
  try simp only [AV.bdL, AV.bd, and_true, true_and] at hbd
  refine w_seq ?_
  refine w_reg ?_
  refine s_eff rfl rfl (e_box (cvl lk0 rfl) rfl (hl0 hn) ha0) pt1 ?_
  refine s_val rfl (v_mv lkb) pt2 ?_
  refine s_nil ?_
  refine n_seq ?_
  refine w_seq ?_
  refine w_drwE ?_
  refine d_val rfl (v_fap0 lk1) pt3 ?_
  refine d_val rfl (v_loadp lk3 (hga hn rfl) gt0) pt4 ?_
  refine d_callp (mp1 lk4 (mp1 lki (mp1 lki mp0))) (fun hE hX => rbetween_a) pt5 ?_
  refine d_val rfl (v_mv lk5) pt6 ?_
  refine d_splitB gt6 pt6 pt6 (fun hg6 => ?_) (fun hg6 => ?_)
  · skip
    have hy : 1 ≤ y ∧ y ≤ 9999 := by unfold wi at hg6; simpa using hg6
    refine d_do gt6 ?_
    refine d_val rfl (v_fap0 lk1) pt7 ?_
    refine d_do gt6 ?_
    refine d_val rfl (v_loadp lk7 (hga hn rfl) gt1) pt8 ?_
    refine d_do gt6 ?_
    refine d_callp (mp1 lk8 (mp1 lki (mp1 lki mp0))) (fun hE hX => rbetween_a) pt9 ?_
    refine d_val rfl (v_pickT lk6 lk9) pt10 ?_
    refine d_val rfl (v_mv lk10) pt11 ?_
    refine d_splitB gt11 pt11 pt11 (fun hg11 => ?_) (fun hg11 => ?_)
    · skip
      refine d_do gt11 ?_
      refine d_val rfl (v_fap0 lk1) pt12 ?_
      refine d_do gt11 ?_
      refine d_val rfl (v_loadp lk12 (hga hn rfl) gt2) pt13 ?_
      refine d_do gt11 ?_
      refine d_val rfl (v_fap0 lk1) pt14 ?_
      refine d_do gt11 ?_
      refine d_val rfl (v_loadp lk14 (hga hn rfl) gt0) pt15 ?_
      refine d_do gt11 ?_
      refine d_val rfl (v_fap0 lk1) pt16 ?_
      refine d_do gt11 ?_
      refine d_val rfl (v_loadp lk16 (hga hn rfl) gt1) pt17 ?_
      refine d_do gt11 ?_
      refine d_callp (mp1 lk15 (mp1 lk17 mp0)) (fun hE hX => rmonthLength_a (by omega) (by omega)) pt18 ?_
      refine d_do gt11 ?_
      refine d_callp (mp1 lk13 (mp1 lki (mp1 lk18 mp0))) (fun hE hX => rbetween_a) pt19 ?_
      refine d_val rfl (v_pickT lk11 lk19) pt20 ?_
      refine d_val rfl (v_mv lk20) pt2 ?_
      refine d_nil ?_
      refine e_nil ?_
      refine s_nil ?_
      refine n_seq ?_
      refine w_rets ?_
      refine w_ret (rs1 (rr_t gt2)) ?_
      refine rt (by first | rfl | (simp only [AV.lt, AV.ltL, Ent.lt, List.all_cons, List.all_nil, Bool.and_true, Bool.and_self, decide_true, chg_lt, nm_lt, int_lt]; done) | (simp [AV.lt, AV.ltL, Ent.lt, chg_lt, nm_lt, int_lt, *]; done) | (simp [AV.lt, AV.ltL, Ent.lt, chg_lt, nm_lt, int_lt, *]; omega)) ?_
      refine bvx ?_; rw [show isDate y m d = (wi y 1 9999 && (wi m 1 12 && wi d 1 (mlen y m))) from by unfold isDate wi; simp [Bool.and_assoc]]; simp_all
    · skip
      refine d_no gt11 pt12 ?_
      refine d_no gt11 pt13 ?_
      refine d_no gt11 pt14 ?_
      refine d_no gt11 pt15 ?_
      refine d_no gt11 pt16 ?_
      refine d_no gt11 pt17 ?_
      refine d_no gt11 pt18 ?_
      refine d_no gt11 pt19 ?_
      refine d_val rfl (v_pickF lk11 lkb) pt20 ?_
      refine d_val rfl (v_mv lk20) pt2 ?_
      refine d_nil ?_
      refine e_nil ?_
      refine s_nil ?_
      refine n_seq ?_
      refine w_rets ?_
      refine w_ret (rs1 (rr_t gt2)) ?_
      refine rt (by first | rfl | (simp only [AV.lt, AV.ltL, Ent.lt, List.all_cons, List.all_nil, Bool.and_true, Bool.and_self, decide_true, chg_lt, nm_lt, int_lt]; done) | (simp [AV.lt, AV.ltL, Ent.lt, chg_lt, nm_lt, int_lt, *]; done) | (simp [AV.lt, AV.ltL, Ent.lt, chg_lt, nm_lt, int_lt, *]; omega)) ?_
      refine bvx ?_; rw [show isDate y m d = (wi y 1 9999 && (wi m 1 12 && wi d 1 (mlen y m))) from by unfold isDate wi; simp [Bool.and_assoc]]; simp_all
  · skip
    refine d_no gt6 pt7 ?_
    refine d_no gt6 pt8 ?_
    refine d_no gt6 pt9 ?_
    refine d_val rfl (v_pickF lk6 lkb) pt10 ?_
    refine d_val rfl (v_mv lk10) pt11 ?_
    refine d_no gt11 pt12 ?_
    refine d_no gt11 pt13 ?_
    refine d_no gt11 pt14 ?_
    refine d_no gt11 pt15 ?_
    refine d_no gt11 pt16 ?_
    refine d_no gt11 pt17 ?_
    refine d_no gt11 pt18 ?_
    refine d_no gt11 pt19 ?_
    refine d_val rfl (v_pickF lk11 lkb) pt20 ?_
    refine d_val rfl (v_mv lk20) pt2 ?_
    refine d_nil ?_
    refine e_nil ?_
    refine s_nil ?_
    refine n_seq ?_
    refine w_rets ?_
    refine w_ret (rs1 (rr_t gt2)) ?_
    refine rt (by first | rfl | (simp only [AV.lt, AV.ltL, Ent.lt, List.all_cons, List.all_nil, Bool.and_true, Bool.and_self, decide_true, chg_lt, nm_lt, int_lt]; done) | (simp [AV.lt, AV.ltL, Ent.lt, chg_lt, nm_lt, int_lt, *]; done) | (simp [AV.lt, AV.ltL, Ent.lt, chg_lt, nm_lt, int_lt, *]; omega)) ?_
    refine bvx ?_; rw [show isDate y m d = (wi y 1 9999 && (wi m 1 12 && wi d 1 (mlen y m))) from by unfold isDate wi; simp [Bool.and_assoc]]; simp_all
theorem sameInts_a {l m : List Int} {f1 f2 : Bool} {h : AH} : ACalls Try.prog 33 [.sl l.length 1 f1 (rows intC l), .sl m.length 1 f2 (rows intC m)] h fun x h' => h' = h ∧ x = .ret (bv (decide (l = m))) := by
  refine i33 ?_
  intro N hn hlt hlA hbd
  try simp only [AV.bdL, AV.bd, and_true, true_and] at hbd
  refine w_seq ?_
  refine w_reg ?_
  refine s_val rfl (v_mv lkb) pt4 ?_
  refine s_nil ?_
  refine n_seq ?_
  refine w_seq ?_
  refine w_seq ?_
  refine w_reg ?_
  refine s_val rfl (v_mv lk0) pt6 ?_
  refine s_val rfl (v_lenL lk6) pt7 ?_
  refine s_val rfl (v_mv lk1) pt8 ?_
  refine s_val rfl (v_lenL lk8) pt9 ?_
  refine s_val rfl (v_neq lk7 lk9) pt10 ?_
  refine s_nil ?_
  refine n_seq ?_
  first | refine w_cond lk10 (fun hc1 => ?_) (fun hc1 => ?_) | refine w_condB lk10 (fun hc1 => ?_) (fun hc1 => ?_)
  · skip
    refine w_seq ?_
    refine w_reg ?_
    refine s_val rfl (v_mv lkb) pt4 ?_
    refine s_nil ?_
    refine n_seq ?_
    refine w_rets ?_
    refine r_thn ?_
    refine w_ret (rs1 (rr_t gt4)) ?_
    refine rt (by first | rfl | (simp only [AV.lt, AV.ltL, Ent.lt, List.all_cons, List.all_nil, Bool.and_true, Bool.and_self, decide_true, chg_lt, nm_lt, int_lt]; done) | (simp [AV.lt, AV.ltL, Ent.lt, chg_lt, nm_lt, int_lt, *]; done) | (simp [AV.lt, AV.ltL, Ent.lt, chg_lt, nm_lt, int_lt, *]; omega)) ?_
    refine bvx (decide_eq_false (fun e => hc1 (by rw [e]))).symm
  · skip
    refine w_skip ?_
    refine n_seq ?_
    refine w_seq ?_
    refine w_seq ?_
    refine w_reg ?_
    refine s_val rfl (v_mv lki) pt5 ?_
    refine s_nil ?_
    refine n_seq ?_
    refine w_block ?_
    refine w_loop (ι := Nat) (fun (k : Nat) => [(5, iv (k : Int)), (4, .any), (11, .any), (12, .any), (13, .any), (14, .any), (15, .any), (16, .any), (17, .any), (18, .any), (19, .any), (20, .any), (21, .any), (22, .any), (23, .any), (24, .any), (25, .any)]) (fun (k : Nat) => []) (fun (k : Nat) => k ≤ l.length ∧ l.length = m.length ∧ l.take k = m.take k) (fun (k : Nat) => l.length - k) (0) (by exact ⟨by omega, by omega, by simp⟩) (by try simp only [setsT, setsE, List.set_cons_zero, List.set_cons_succ]; exact ALe.same (wk1 rfl (wk1 rfl (wk1 rfl (wk1 rfl (wka (wk1 (by first | rfl | exact ivx (by omega) | (simp; done)) (wk1 rfl (wk1 rfl (wk1 rfl (wk1 rfl (wk1 rfl (wka (wka (wka (wka (wka (wka (wka (wka (wka (wka (wka (wka (wka (wka (wka wk0)))))))))))))))))))))))))) rfl) ?_
    rintro k hi1
    try simp only [setsT, setsE, List.set_cons_zero, List.set_cons_succ]
    obtain ⟨hk1, hk2, hk3⟩ := hi1
    refine w_seq ?_
    refine w_seq ?_
    refine w_reg ?_
    refine s_val rfl (v_mv lk5) pt11 ?_
    refine s_val rfl (v_mv lk0) pt12 ?_
    refine s_val rfl (v_lenL lk12) pt13 ?_
    refine s_val rfl (v_lss lk11 lk13) pt14 ?_
    refine s_nil ?_
    refine n_seq ?_
    first | refine w_cond lk14 (fun hc2 => ?_) (fun hc2 => ?_) | refine w_condB lk14 (fun hc2 => ?_) (fun hc2 => ?_)
    · skip
      refine w_skip ?_
      refine n_seq ?_
      refine w_seq ?_
      refine w_block ?_
      refine w_seq ?_
      refine w_drwE ?_
      refine d_val rfl (v_mv lk0) pt17 ?_
      refine d_val rfl (v_mv lk5) pt18 ?_
      refine d_val rfl (v_iaR lk17 lk18 int_len1 (Nat.le_of_ble_eq_true rfl) (by first | rfl | omega) (by omega) (by first | rfl | omega) rfl) pt19 ?_
      refine d_val rfl (v_loadr lk19 gt0) pt20 ?_
      refine d_val rfl (v_mv lk1) pt21 ?_
      refine d_val rfl (v_mv lk5) pt22 ?_
      refine d_val rfl (v_iaR lk21 lk22 int_len1 (Nat.le_of_ble_eq_true rfl) (by first | rfl | omega) (by omega) (by first | rfl | omega) rfl) pt23 ?_
      refine d_val rfl (v_loadr lk23 gt0) pt24 ?_
      refine d_val rfl ((by first | exact v_neq lk20 lk24 | exact v_neqS lk20 lk24)) pt25 ?_
      refine d_nil ?_
      refine e_nil ?_
      refine s_nil ?_
      refine n_seq ?_
      first | refine w_cond lk25 (fun hc3 => ?_) (fun hc3 => ?_) | refine w_condB lk25 (fun hc3 => ?_) (fun hc3 => ?_)
      · skip
        refine w_seq ?_
        refine w_reg ?_
        refine s_val rfl (v_mv lkb) pt4 ?_
        refine s_nil ?_
        refine n_seq ?_
        refine w_rets ?_
        refine r_blk ?_
        refine r_thn ?_
        refine r_thn ?_
        refine r_blk ?_
        refine r_thn ?_
        refine w_ret (rs1 (rr_t gt4)) ?_
        refine rt (by first | rfl | (simp only [AV.lt, AV.ltL, Ent.lt, List.all_cons, List.all_nil, Bool.and_true, Bool.and_self, decide_true, chg_lt, nm_lt, int_lt]; done) | (simp [AV.lt, AV.ltL, Ent.lt, chg_lt, nm_lt, int_lt, *]; done) | (simp [AV.lt, AV.ltL, Ent.lt, chg_lt, nm_lt, int_lt, *]; omega)) ?_
        refine bvx (decide_eq_false (fun e => hc3 (by subst e; simp))).symm
      · skip
        refine w_skip ?_
        refine n_blk ?_
        refine n_seq ?_
        refine w_reg ?_
        refine s_val rfl (v_mv lk5) pt15 ?_
        refine s_val rfl (v_add lk15 lki (by omega) (by omega)) pt16 ?_
        refine s_val rfl (v_mv lk16) pt5 ?_
        refine s_nil ?_
        refine n_thn ?_
        refine LoopTo.mk (k + 1) (by omega) (by (try dsimp only); exact ⟨by omega, hk2, by rw [List.take_succ_eq_append_getElem (by omega), List.take_succ_eq_append_getElem (by omega), hk3, Decidable.of_not_not hc3]⟩) (by (try dsimp only); (try simp only [setsT, setsE, List.set_cons_zero, List.set_cons_succ]); exact ALe.same (wk1 rfl (wk1 rfl (wk1 rfl (wk1 rfl (wka (wk1 (by first | rfl | exact ivx (by omega) | (simp; done)) (wk1 rfl (wk1 rfl (wk1 rfl (wk1 rfl (wk1 rfl (wka (wka (wka (wka (wka (wka (wka (wka (wka (wka (wka (wka (wka (wka (wka wk0)))))))))))))))))))))))))) rfl)
    · skip
      refine w_exit ?_
      refine x_thn ?_
      refine x_thn ?_
      refine x_blk ?_
      refine n_seq ?_
      refine w_seq ?_
      refine w_reg ?_
      refine s_val rfl (v_mv lkb) pt4 ?_
      refine s_nil ?_
      refine n_seq ?_
      refine w_rets ?_
      refine w_ret (rs1 (rr_t gt4)) ?_
      refine rt (by first | rfl | (simp only [AV.lt, AV.ltL, Ent.lt, List.all_cons, List.all_nil, Bool.and_true, Bool.and_self, decide_true, chg_lt, nm_lt, int_lt]; done) | (simp [AV.lt, AV.ltL, Ent.lt, chg_lt, nm_lt, int_lt, *]; done) | (simp [AV.lt, AV.ltL, Ent.lt, chg_lt, nm_lt, int_lt, *]; omega)) ?_
      refine bvx (decide_eq_true ?_).symm
      rw [List.take_of_length_le (by omega), List.take_of_length_le (by omega)] at hk3
      exact hk3
theorem num_first (y m : Int) : num y m 1 = bef y - 719162 + cum y m := by unfold num; omega
theorem date_is {n y m d : Int} (h0 : -719162 ≤ n) (h1 : n ≤ 2932896) (h : isDate y m d = true) (hn : num y m d = n) : dateOf n = (y, m, d) := by
  obtain ⟨a, b⟩ := dateOf_spec h0 h1
  obtain ⟨e1, e2, e3⟩ := num_inj a h (b.trans hn.symm)
  exact Prod.ext e1 (Prod.ext e2 e3)
theorem rdateOf_a {n : Int} {h : AH} (h0 : -719162 ≤ n) (h1 : n ≤ 2932896) : ACalls Try.prog 57 [iv n] h fun x h' => h' = h ∧ x = .ret (dateA (dateOf n)) := by
  have hs := yrOf_spec h0 h1
  refine i57 ?_
  intro N hn hlt hlA hbd
  try simp only [AV.bdL, AV.bd, and_true, true_and] at hbd
  refine w_seq ?_
  refine w_reg ?_
  refine s_eff rfl rfl (e_new (hl0 hn) ha0) pt2 ?_
  refine s_nil ?_
  refine n_seq ?_
  refine w_seq ?_
  refine w_reg ?_
  refine s_val rfl (v_mv lki) pt3 ?_
  refine s_val rfl (v_mv lki) pt4 ?_
  refine s_nil ?_
  refine n_seq ?_
  refine w_seq ?_
  refine w_block ?_
  refine w_loop (ι := Int × Int) (fun (x_ : Int × Int) => match x_ with | ⟨a, b⟩ => [(3, iv a), (4, iv b), (5, .any), (7, .any), (8, .any), (9, .any), (10, .any), (11, .any), (12, .any), (13, .any), (14, .any), (15, .any), (16, .any), (17, .any), (18, .any), (19, .any), (20, .any), (21, .any)]) (fun (x_ : Int × Int) => match x_ with | ⟨a, b⟩ => []) (fun (x_ : Int × Int) => match x_ with | ⟨a, b⟩ => (1 ≤ a ∧ a < b ∧ b ≤ 10000) ∧ bef a ≤ n + 719162 ∧ n + 719162 < bef b) (fun (x_ : Int × Int) => match x_ with | ⟨a, b⟩ => (b - a).toNat) (⟨1, 10000⟩) (by exact ⟨by omega, by rw [bef_1]; omega, by rw [bef_10000]; omega⟩) (by try simp only [setsT, setsE, List.set_cons_zero, List.set_cons_succ]; exact ALe.same (wk1 rfl (wk1 rfl (wk1 rfl (wk1 (by first | rfl | exact ivx (by omega) | (simp; done)) (wk1 (by first | rfl | exact ivx (by omega) | (simp; done)) (wka (wk1 rfl (wka (wka (wka (wka (wka (wka (wka (wka (wka (wka (wka (wka (wka (wka (wka (wk1 rfl (wk1 rfl (wk1 rfl (wk1 rfl (wk1 rfl (wk1 rfl (wk1 rfl (wk1 rfl (wk1 rfl (wk1 rfl (wk1 rfl (wk1 rfl (wk1 rfl (wk1 rfl (wk1 rfl (wk1 rfl (wk1 rfl wk0))))))))))))))))))))))))))))))))))))))) rfl) ?_
  rintro ⟨a, b⟩ hi1
  try simp only [setsT, setsE, List.set_cons_zero, List.set_cons_succ]
  obtain ⟨hi1, hi2, hi3⟩ := hi1
  refine w_seq ?_
  refine w_seq ?_
  refine w_reg ?_
  refine s_val rfl (v_mv lk4) pt7 ?_
  refine s_val rfl (v_mv lk3) pt8 ?_
  refine s_val rfl (v_sub lk7 lk8 (by omega) (by omega)) pt9 ?_
  refine s_val rfl (v_gtr lk9 lki) pt10 ?_
  refine s_nil ?_
  refine n_seq ?_
  first | refine w_cond lk10 (fun hc1 => ?_) (fun hc1 => ?_) | refine w_condB lk10 (fun hc1 => ?_) (fun hc1 => ?_)
  · skip
    refine w_skip ?_
    refine n_seq ?_
    refine w_block ?_
    refine w_seq ?_
    refine w_reg ?_
    refine s_val rfl (v_mv lk3) pt11 ?_
    refine s_val rfl (v_mv lk4) pt12 ?_
    refine s_val rfl (v_add lk11 lk12 (by omega) (by omega)) pt13 ?_
    refine s_val rfl (v_quo lk13 lki (by omega) (by omega) (by omega)) pt14 ?_
    refine s_val rfl (v_mv lk14) pt5 ?_
    refine s_nil ?_
    refine n_seq ?_
    refine w_seq ?_
    refine w_reg ?_
    refine s_val rfl (v_mv lk5) pt15 ?_
    refine s_val rfl (v_build (LRefA_DateOf_14 (cvl lk15 rfl) rfl (cvl lki rfl) rfl (cvl lki rfl) rfl)) pt16 ?_
    refine s_callp (mp1 lk16 mp0) (rdaysOf_a (m := 1) (d := 1) (by omega) (by omega) (by omega) (by omega) (by omega) (by omega)) pt17 ?_
    refine s_val rfl (v_mv lk0) pt18 ?_
    refine s_val rfl (v_leq lk17 lk18) pt19 ?_
    refine s_nil ?_
    refine n_seq ?_
    first | refine w_cond lk19 (fun hc2 => ?_) (fun hc2 => ?_) | refine w_condB lk19 (fun hc2 => ?_) (fun hc2 => ?_)
    · skip
      have hb2 : bef ((a + b) / 2) ≤ n + 719162 := by rw [num_first, cum_1] at hc2; omega
      refine w_reg ?_
      refine s_val rfl (v_mv lk5) pt20 ?_
      refine s_val rfl (v_mv lk20) pt3 ?_
      refine s_nil ?_
      refine n_blk ?_
      refine n_thn ?_
      refine LoopTo.mk (⟨(a + b) / 2, b⟩) (by omega) (by (try dsimp only); exact ⟨by omega, by omega, by omega⟩) (by (try dsimp only); (try simp only [setsT, setsE, List.set_cons_zero, List.set_cons_succ]); exact ALe.same (wk1 rfl (wk1 rfl (wk1 rfl (wk1 (by first | rfl | exact ivx (by omega) | (simp; done)) (wk1 (by first | rfl | exact ivx (by omega) | (simp; done)) (wka (wk1 rfl (wka (wka (wka (wka (wka (wka (wka (wka (wka (wka (wka (wka (wka (wka (wka (wk1 rfl (wk1 rfl (wk1 rfl (wk1 rfl (wk1 rfl (wk1 rfl (wk1 rfl (wk1 rfl (wk1 rfl (wk1 rfl (wk1 rfl (wk1 rfl (wk1 rfl (wk1 rfl (wk1 rfl (wk1 rfl (wk1 rfl wk0))))))))))))))))))))))))))))))))))))))) rfl)
    · skip
      have hb2 : n + 719162 < bef ((a + b) / 2) := by rw [num_first, cum_1] at hc2; omega
      refine w_reg ?_
      refine s_val rfl (v_mv lk5) pt21 ?_
      refine s_val rfl (v_mv lk21) pt4 ?_
      refine s_nil ?_
      refine n_blk ?_
      refine n_thn ?_
      refine LoopTo.mk (⟨a, (a + b) / 2⟩) (by omega) (by (try dsimp only); exact ⟨by omega, by omega, by omega⟩) (by (try dsimp only); (try simp only [setsT, setsE, List.set_cons_zero, List.set_cons_succ]); exact ALe.same (wk1 rfl (wk1 rfl (wk1 rfl (wk1 (by first | rfl | exact ivx (by omega) | (simp; done)) (wk1 (by first | rfl | exact ivx (by omega) | (simp; done)) (wka (wk1 rfl (wka (wka (wka (wka (wka (wka (wka (wka (wka (wka (wka (wka (wka (wka (wka (wk1 rfl (wk1 rfl (wk1 rfl (wk1 rfl (wk1 rfl (wk1 rfl (wk1 rfl (wk1 rfl (wk1 rfl (wk1 rfl (wk1 rfl (wk1 rfl (wk1 rfl (wk1 rfl (wk1 rfl (wk1 rfl (wk1 rfl wk0))))))))))))))))))))))))))))))))))))))) rfl)
  · skip
    have hab : b = a + 1 := by omega
    rw [hab] at hi3
    have hy : yrOf n = a := yr_uniq hs.1 hs.2 hi2 hi3
    have hbs := bef_succ a
    have hl01 := lp_01 a
    refine w_exit ?_
    refine x_thn ?_
    refine x_thn ?_
    refine x_blk ?_
    refine n_seq ?_
    refine w_seq ?_
    refine w_reg ?_
    refine s_val rfl (v_mv lk3) pt22 ?_
    refine s_val rfl (v_build (LRefA_DateOf_23 (cvl lk22 rfl) rfl (cvl lki rfl) rfl (cvl lki rfl) rfl)) pt23 ?_
    refine s_eff rfl rfl (e_new (hl1 hn) ha1) pt6 ?_
    refine s_eff rfl rfl (e_store lk6 (cvl lk23 rfl) (hga hn rfl) rfl (Nat.le_of_ble_eq_true rfl) rfl LRefA_sc0_3 (hs1 hn)) ptn ?_
    refine s_nil ?_
    refine n_seq ?_
    refine w_seq ?_
    refine w_block ?_
    refine w_loop (ι := Int) (fun (m : Int) => [(24, .any), (25, .any), (26, .any), (27, .any), (28, .any), (29, .any), (30, .any), (31, .any)]) (fun (m : Int) => [(1, .mk 0 52 3 [iv a, iv m, iv 1])]) (fun (m : Int) => (1 ≤ m ∧ m ≤ 12) ∧ n + 719162 - bef a < cum a (m + 1)) (fun (m : Int) => m.toNat) (12) (by exact ⟨by omega, by rw [show (12 : Int) + 1 = 13 from rfl, cum_13]; omega⟩) (by try simp only [setsT, setsE, List.set_cons_zero, List.set_cons_succ]; exact ALe.same (wk1 rfl (wk1 rfl (wk1 rfl (wk1 rfl (wk1 rfl (wk1 rfl (wk1 rfl (wk1 rfl (wk1 rfl (wk1 rfl (wk1 rfl (wk1 rfl (wk1 rfl (wk1 rfl (wk1 rfl (wk1 rfl (wk1 rfl (wk1 rfl (wk1 rfl (wk1 rfl (wk1 rfl (wk1 rfl (wk1 rfl (wk1 rfl (wka (wka (wka (wka (wka (wka (wka (wka (wk1 rfl (wk1 rfl (wk1 rfl (wk1 rfl (wk1 rfl (wk1 rfl (wk1 rfl wk0))))))))))))))))))))))))))))))))))))))) rfl) ?_
    rintro m hi2
    try simp only [setsT, setsE, List.set_cons_zero, List.set_cons_succ]
    obtain ⟨hm1, hm2⟩ := hi2
    refine w_seq ?_
    refine w_seq ?_
    refine w_reg ?_
    refine s_val rfl (v_loadpA lk6 (hga hn rfl) LRefA_tk0_3 rfl) pt24 ?_
    refine s_callp (mp1 lk24 mp0) (rdaysOf_a (m := m) (d := 1) (by omega) (by omega) (by omega) (by omega) (by omega) (by omega)) pt25 ?_
    refine s_val rfl (v_mv lk0) pt26 ?_
    refine s_val rfl (v_gtr lk25 lk26) pt27 ?_
    refine s_nil ?_
    refine n_seq ?_
    first | refine w_cond lk27 (fun hc3 => ?_) (fun hc3 => ?_) | refine w_condB lk27 (fun hc3 => ?_) (fun hc3 => ?_)
    · skip
      have hm3 : 1 < m := by
        rcases Int.lt_or_le 1 m with e | e
        · exact e
        · have : m = 1 := by omega
          subst this; rw [num_first, cum_1] at hc3; omega
      refine w_skip ?_
      refine n_seq ?_
      refine w_block ?_
      refine w_reg ?_
      refine s_val rfl (v_fap0 lk6) pt28 ?_
      refine s_val rfl (v_loadp lk28 (hga hn rfl) gt1) pt29 ?_
      refine s_val rfl (v_sub lk29 lki (by omega) (by omega)) pt30 ?_
      refine s_val rfl (v_fap0 lk6) pt31 ?_
      refine s_eff rfl rfl (e_store lk31 (cvl lk30 rfl) (hga hn rfl) rfl (Nat.le_of_ble_eq_true rfl) rfl LRefA_sc1_1 (hs1 hn)) ptn ?_
      refine s_nil ?_
      refine n_blk ?_
      refine n_thn ?_
      refine LoopTo.mk (m - 1) (by omega) (by (try dsimp only); exact ⟨by omega, by rw [num_first] at hc3; rw [show m - 1 + 1 = m by omega]; omega⟩) (by (try dsimp only); (try simp only [setsT, setsE, List.set_cons_zero, List.set_cons_succ]); exact ALe.same (wk1 rfl (wk1 rfl (wk1 rfl (wk1 rfl (wk1 rfl (wk1 rfl (wk1 rfl (wk1 rfl (wk1 rfl (wk1 rfl (wk1 rfl (wk1 rfl (wk1 rfl (wk1 rfl (wk1 rfl (wk1 rfl (wk1 rfl (wk1 rfl (wk1 rfl (wk1 rfl (wk1 rfl (wk1 rfl (wk1 rfl (wk1 rfl (wka (wka (wka (wka (wka (wka (wka (wka (wk1 rfl (wk1 rfl (wk1 rfl (wk1 rfl (wk1 rfl (wk1 rfl (wk1 rfl wk0))))))))))))))))))))))))))))))))))))))) rfl)
    · skip
      have hcl : cum a m ≤ n + 719162 - bef a := by rw [num_first] at hc3; omega
      have hcs := cum_succ (y := a) (m := m) hm1.1 hm1.2
      have hmb := mlen_bd a m
      have hnf := num_first a m
      have hcb := cum_bd (y := a) (m := m) hm1.1 (by omega)
      refine w_exit ?_
      refine x_thn ?_
      refine x_thn ?_
      refine x_blk ?_
      refine n_seq ?_
      refine w_seq ?_
      refine w_reg ?_
      refine s_val rfl (v_mv lk0) pt32 ?_
      refine s_val rfl (v_loadpA lk6 (hga hn rfl) LRefA_tk0_3 rfl) pt33 ?_
      refine s_callp (mp1 lk33 mp0) (rdaysOf_a (m := m) (d := 1) (by omega) (by omega) (by omega) (by omega) (by omega) (by omega)) pt34 ?_
      refine s_val rfl (v_sub lk32 lk34 (by omega) (by omega)) pt35 ?_
      refine s_val rfl (v_add lk35 lki (by omega) (by omega)) pt36 ?_
      refine s_val rfl (v_fap0 lk6) pt37 ?_
      refine s_eff rfl rfl (e_store lk37 (cvl lk36 rfl) (hga hn rfl) rfl (Nat.le_of_ble_eq_true rfl) rfl LRefA_sc2_1 (hs1 hn)) ptn ?_
      refine s_nil ?_
      refine n_seq ?_
      refine w_seq ?_
      refine w_reg ?_
      refine s_val rfl (v_loadpA lk6 (hga hn rfl) LRefA_tk0_3 rfl) pt38 ?_
      refine s_eff rfl rfl (e_store lk2 (cvl lk38 rfl) (hga hn rfl) rfl (Nat.le_of_ble_eq_true rfl) rfl LRefA_sc0_3 (hs0 hn)) ptn ?_
      refine s_nil ?_
      refine n_seq ?_
      refine w_rets ?_
      refine w_ret (rs1 (rr_c gt2 (hga hn rfl) (ld1 LRefA_tk0_3 rfl))) ?_
      refine rt (by first | rfl | (simp only [AV.lt, AV.ltL, Ent.lt, List.all_cons, List.all_nil, Bool.and_true, Bool.and_self, decide_true, chg_lt, nm_lt, int_lt]; done) | (simp [AV.lt, AV.ltL, Ent.lt, chg_lt, nm_lt, int_lt, *]; done) | (simp [AV.lt, AV.ltL, Ent.lt, chg_lt, nm_lt, int_lt, *]; omega)) ?_
      rw [date_is h0 h1 (isDate_iff.2 ⟨hi1.1, by omega, hm1.1, hm1.2, by omega, by omega⟩) (show num a m (n - num a m 1 + 1) = n by unfold num; omega)]
theorem tdiv_near (n : Int) : n / 86400 ≤ n.tdiv 86400 ∧ n.tdiv 86400 ≤ n / 86400 + 1 := by
  rcases Int.lt_or_le n 0 with h | h
  · have e : n.tdiv 86400 = -((-n) / 86400) := by
      rw [← Int.tdiv_eq_ediv_of_nonneg (by omega : 0 ≤ -n), Int.neg_tdiv, Int.neg_neg]
    omega
  · rw [Int.tdiv_eq_ediv_of_nonneg h]; omega
theorem v_quoT {h : AH} {T : List AV} {x y : Operand} {n : Int} (hx : aEval T x = iv n) (hy : aEval T y = iv 86400) (h1 : -1000000000000000 ≤ n) (h2 : n ≤ 1000000000000000) : aval h (aEval T) (.bin .quo x y) = some (iv (n.tdiv 86400)) := by
  have := tdiv_near n
  rw [v_quow hx hy (by omega), w64 (by omega) (by omega)]
theorem rlookAt_a {t : Tab} {n : Int} {full : Bool} {h : AH} (hv : checkT t = 0) :
    ACalls Try.prog 56 [.agg [iv t.1.1, iv t.1.2.1, sv t.1.2.2, .sl t.2.length 4 full (rows chgC t.2)], iv n] h fun x h' => h' = h ∧ x = .ret (.agg (locC (thereL t n))) := by
  have hl := checkT_len hv
  refine i56 ?_
  intro N hn hlt hlA hbd
  try simp only [AV.bdL, AV.bd, and_true, true_and] at hbd
  refine w_seq ?_
  refine w_reg ?_
  refine s_eff rfl rfl (e_box (cvl lk0 rfl) rfl (hl0 hn) ha0) pt2 ?_
  refine s_eff rfl rfl (e_new (hl1 hn) ha1) pt4 ?_
  refine s_nil ?_
  refine n_seq ?_
  refine w_seq ?_
  refine w_reg ?_
  refine s_val rfl (v_fap0 lk2) pt7 ?_
  refine s_val rfl (v_loadpA lk7 (hga hn rfl) LRefA_tk0_3 rfl) pt8 ?_
  refine s_eff rfl rfl (e_new (hl2 hn) ha2) pt5 ?_
  refine s_eff rfl rfl (e_store lk5 (cvl lk8 rfl) (hga hn rfl) rfl (Nat.le_of_ble_eq_true rfl) rfl LRefA_sc0_3 (hs2 hn)) ptn ?_
  refine s_nil ?_
  refine n_seq ?_
  refine w_seq ?_
  refine w_seq ?_
  refine w_reg ?_
  refine s_val rfl (v_mv lki) pt6 ?_
  refine s_nil ?_
  refine n_seq ?_
  refine w_block ?_
  refine w_loop (ι := Nat) (fun (k : Nat) => [(6, iv (k : Int)), (9, .any), (10, .any), (11, .any), (12, .any), (13, .any), (14, .any), (15, .any), (16, .any), (17, .any), (18, .any), (19, .any), (20, .any), (21, .any), (22, .any), (23, .any), (24, .any), (25, .any), (26, .any), (27, .any), (28, .any), (29, .any)]) (fun (k : Nat) => [(2, .mk 0 23 3 (locC (lookA n t.1 (t.2.take k))))]) (fun (k : Nat) => k ≤ t.2.length) (fun (k : Nat) => t.2.length - k) (0) (by exact Nat.zero_le _) (by try simp only [setsT, setsE, List.set_cons_zero, List.set_cons_succ]; exact ALe.same (wk1 rfl (wk1 rfl (wk1 rfl (wk1 rfl (wk1 rfl (wk1 rfl (wk1 (by first | rfl | exact ivx (by omega) | (simp; done)) (wk1 rfl (wk1 rfl (wka (wka (wka (wka (wka (wka (wka (wka (wka (wka (wka (wka (wka (wka (wka (wka (wka (wka (wka (wka (wka (wk1 rfl wk0))))))))))))))))))))))))))))))) rfl) ?_
  rintro k hi1
  try simp only [setsT, setsE, List.set_cons_zero, List.set_cons_succ]
  refine w_seq ?_
  refine w_seq ?_
  refine w_reg ?_
  refine s_val rfl (v_mv lk6) pt9 ?_
  refine s_val rfl (v_fap0 lk2) pt10 ?_
  refine s_val rfl (v_loadp lk10 (hga hn rfl) gt3) pt11 ?_
  refine s_val rfl (v_lenL lk11) pt12 ?_
  refine s_val rfl (v_lss lk9 lk12) pt13 ?_
  refine s_nil ?_
  refine n_seq ?_
  first | refine w_cond lk13 (fun hc1 => ?_) (fun hc1 => ?_) | refine w_condB lk13 (fun hc1 => ?_) (fun hc1 => ?_)
  · skip
    have hk : k < t.2.length := by omega
    have hst : lookA n t.1 (t.2.take (k + 1)) = if t.2[k].1 ≤ n then t.2[k].2 else lookA n t.1 (t.2.take k) := by rw [List.take_succ_eq_append_getElem hk, lookA_snoc]
    refine w_skip ?_
    refine n_seq ?_
    refine w_seq ?_
    refine w_block ?_
    refine w_seq ?_
    refine w_reg ?_
    refine s_val rfl (v_fap0 lk2) pt16 ?_
    refine s_val rfl (v_loadp lk16 (hga hn rfl) gt3) pt17 ?_
    refine s_val rfl (v_mv lk6) pt18 ?_
    refine s_val rfl (v_iaR lk17 lk18 chg_len1 (Nat.le_of_ble_eq_true rfl) (by first | rfl | omega) (by omega) (by first | rfl | omega) rfl) pt19 ?_
    refine s_val rfl (v_far lk19 dp0) pt20 ?_
    refine s_val rfl (v_loadr lk20 gt0) pt21 ?_
    refine s_val rfl (v_mv lk1) pt22 ?_
    refine s_val rfl (v_leq lk21 lk22) pt23 ?_
    refine s_nil ?_
    refine n_seq ?_
    first | refine w_cond lk23 (fun hc2 => ?_) (fun hc2 => ?_) | refine w_condB lk23 (fun hc2 => ?_) (fun hc2 => ?_)
    · skip
      refine w_reg ?_
      refine s_val rfl (v_fap0 lk2) pt24 ?_
      refine s_val rfl (v_loadp lk24 (hga hn rfl) gt3) pt25 ?_
      refine s_val rfl (v_mv lk6) pt26 ?_
      refine s_val rfl (v_iaR lk25 lk26 chg_len1 (Nat.le_of_ble_eq_true rfl) (by first | rfl | omega) (by omega) (by first | rfl | omega) rfl) pt27 ?_
      refine s_val rfl (v_far lk27 dp1) pt28 ?_
      refine s_val rfl (v_loadrA lk28 LRefA_tk_3 rfl) pt29 ?_
      refine s_eff rfl rfl (e_store lk5 (cvl lk29 rfl) (hga hn rfl) rfl (Nat.le_of_ble_eq_true rfl) rfl LRefA_sc0_3 (hs2 hn)) ptn ?_
      refine s_nil ?_
      refine n_blk ?_
      refine n_seq ?_
      refine w_reg ?_
      refine s_val rfl (v_mv lk6) pt14 ?_
      refine s_val rfl (v_add lk14 lki (by omega) (by omega)) pt15 ?_
      refine s_val rfl (v_mv lk15) pt6 ?_
      refine s_nil ?_
      refine n_thn ?_
      refine LoopTo.mk (k + 1) (by omega) (by (try dsimp only); omega) (by (try dsimp only); (try simp only [setsT, setsE, List.set_cons_zero, List.set_cons_succ]); exact ALe.same (wk1 rfl (wk1 rfl (wk1 rfl (wk1 rfl (wk1 rfl (wk1 rfl (wk1 (by first | rfl | exact ivx (by omega) | (simp; done)) (wk1 rfl (wk1 rfl (wka (wka (wka (wka (wka (wka (wka (wka (wka (wka (wka (wka (wka (wka (wka (wka (wka (wka (wka (wka (wka (wk1 rfl wk0))))))))))))))))))))))))))))))) (by rw [hst, if_pos hc2]))
    · skip
      refine w_skip ?_
      refine n_blk ?_
      refine n_seq ?_
      refine w_reg ?_
      refine s_val rfl (v_mv lk6) pt14 ?_
      refine s_val rfl (v_add lk14 lki (by omega) (by omega)) pt15 ?_
      refine s_val rfl (v_mv lk15) pt6 ?_
      refine s_nil ?_
      refine n_thn ?_
      refine LoopTo.mk (k + 1) (by omega) (by (try dsimp only); omega) (by (try dsimp only); (try simp only [setsT, setsE, List.set_cons_zero, List.set_cons_succ]); exact ALe.same (wk1 rfl (wk1 rfl (wk1 rfl (wk1 rfl (wk1 rfl (wk1 rfl (wk1 (by first | rfl | exact ivx (by omega) | (simp; done)) (wk1 rfl (wk1 rfl (wka (wka (wka (wka (wka (wka (wka (wka (wka (wka (wka (wka (wka (wka (wka (wka (wka (wka (wka (wka (wka (wk1 rfl wk0))))))))))))))))))))))))))))))) (by rw [hst, if_neg hc2]))
  · skip
    have hkl : k = t.2.length := by omega
    have hE : lookA n t.1 (t.2.take k) = thereL t n := by rw [hkl, List.take_length, lookA_there hv]
    refine w_exit ?_
    refine x_thn ?_
    refine x_thn ?_
    refine x_blk ?_
    refine n_seq ?_
    refine w_seq ?_
    refine w_reg ?_
    refine s_val rfl (v_loadpA lk5 (hga hn rfl) LRefA_tk0_3 rfl) pt30 ?_
    refine s_eff rfl rfl (e_store lk4 (cvl lk30 rfl) (hga hn rfl) rfl (Nat.le_of_ble_eq_true rfl) rfl LRefA_sc0_3 (hs1 hn)) ptn ?_
    refine s_nil ?_
    refine n_seq ?_
    refine w_rets ?_
    refine w_ret (rs1 (rr_c gt4 (hga hn rfl) (ld1 LRefA_tk0_3 rfl))) ?_
    refine rt (by first | rfl | (simp only [AV.lt, AV.ltL, Ent.lt, List.all_cons, List.all_nil, Bool.and_true, Bool.and_self, decide_true, chg_lt, nm_lt, int_lt]; done) | (simp [AV.lt, AV.ltL, Ent.lt, chg_lt, nm_lt, int_lt, *]; done) | (simp [AV.lt, AV.ltL, Ent.lt, chg_lt, nm_lt, int_lt, *]; omega)) ?_
    rw [hE]
theorem rwallOf_a {t : Tab} {n : Int} {full : Bool} {h : AH} (hv : checkT t = 0) (hb : timeB n = true) :
    ACalls Try.prog 30 [.agg [iv t.1.1, iv t.1.2.1, sv t.1.2.2, .sl t.2.length 4 full (rows chgC t.2)], iv n] h fun x h' => h' = h ∧ x = .ret (.tup [dateA (shD (n + (thereL t n).1)), iv (shS (n + (thereL t n).1)), iv (shE (n + (thereL t n).1))]) := by
  have hls := locE_ok (thereL_locE hv n)
  have hbt := timeB_iff.1 hb
  have htd := tdiv_near (n + (thereL t n).1)
  refine i30 ?_
  intro N hn hlt hlA hbd
  try simp only [AV.bdL, AV.bd, and_true, true_and] at hbd
  refine w_seq ?_
  refine w_reg ?_
  refine s_eff rfl rfl (e_box (cvl lk0 rfl) rfl (hl0 hn) ha0) pt2 ?_
  refine s_eff rfl rfl (e_new (hl1 hn) ha1) pt4 ?_
  refine s_val rfl (v_mv lki) pt5 ?_
  refine s_val rfl (v_mv lki) pt6 ?_
  refine s_nil ?_
  refine n_seq ?_
  refine w_seq ?_
  refine w_reg ?_
  refine s_val rfl (v_mv lk1) pt9 ?_
  refine s_val rfl (v_loadpA lk2 (hga hn rfl) LRefA_tk0_4 rfl) pt10 ?_
  refine s_val rfl (v_mv lk1) pt11 ?_
  refine s_callp (mp1 lk10 (mp1 lk11 mp0)) (rlookAt_a (t := t) hv) pt12 ?_
  refine s_val rfl (v_fld lk12 gt0) pt13 ?_
  refine s_val rfl (v_add lk9 lk13 (by omega) (by omega)) pt14 ?_
  refine s_val rfl (v_mv lk14) pt7 ?_
  refine s_nil ?_
  refine n_seq ?_
  refine w_seq ?_
  refine w_reg ?_
  refine s_val rfl (v_mv lk7) pt15 ?_
  refine s_val rfl (v_quoT lk15 lki (by omega) (by omega)) pt16 ?_
  refine s_val rfl (v_mv lk16) pt8 ?_
  refine s_nil ?_
  refine n_seq ?_
  refine w_seq ?_
  refine w_block ?_
  refine w_loop (ι := Int) (fun (q : Int) => [(8, iv q), (17, .any), (18, .any), (19, .any), (20, .any), (21, .any), (22, .any)]) (fun (q : Int) => []) (fun (q : Int) => (n + (thereL t n).1) / 86400 ≤ q ∧ q ≤ (n + (thereL t n).1) / 86400 + 1) (fun (q : Int) => (q - (n + (thereL t n).1) / 86400).toNat) ((n + (thereL t n).1).tdiv 86400) (by exact htd) (by try simp only [setsT, setsE, List.set_cons_zero, List.set_cons_succ]; exact ALe.same (wk1 rfl (wk1 rfl (wk1 rfl (wk1 rfl (wk1 rfl (wk1 rfl (wk1 rfl (wk1 rfl (wk1 (by first | rfl | exact ivx (by omega) | (simp; done)) (wk1 rfl (wk1 rfl (wk1 rfl (wk1 rfl (wk1 rfl (wk1 rfl (wk1 rfl (wk1 rfl (wka (wka (wka (wka (wka (wka (wk1 rfl (wk1 rfl (wk1 rfl (wk1 rfl (wk1 rfl (wk1 rfl (wk1 rfl (wk1 rfl (wk1 rfl (wk1 rfl (wk1 rfl (wk1 rfl wk0))))))))))))))))))))))))))))))))))) rfl) ?_
  rintro q hi1
  try simp only [setsT, setsE, List.set_cons_zero, List.set_cons_succ]
  refine w_seq ?_
  refine w_seq ?_
  refine w_reg ?_
  refine s_val rfl (v_mv lk8) pt17 ?_
  refine s_val rfl (v_mul lk17 lki (by omega) (by omega)) pt18 ?_
  refine s_val rfl (v_mv lk7) pt19 ?_
  refine s_val rfl (v_gtr lk18 lk19) pt20 ?_
  refine s_nil ?_
  refine n_seq ?_
  first | refine w_cond lk20 (fun hc1 => ?_) (fun hc1 => ?_) | refine w_condB lk20 (fun hc1 => ?_) (fun hc1 => ?_)
  · skip
    refine w_skip ?_
    refine n_seq ?_
    refine w_block ?_
    refine w_reg ?_
    refine s_val rfl (v_mv lk8) pt21 ?_
    refine s_val rfl (v_sub lk21 lki (by omega) (by omega)) pt22 ?_
    refine s_val rfl (v_mv lk22) pt8 ?_
    refine s_nil ?_
    refine n_blk ?_
    refine n_thn ?_
    refine LoopTo.mk (q - 1) (by omega) (by (try dsimp only); omega) (by (try dsimp only); (try simp only [setsT, setsE, List.set_cons_zero, List.set_cons_succ]); exact ALe.same (wk1 rfl (wk1 rfl (wk1 rfl (wk1 rfl (wk1 rfl (wk1 rfl (wk1 rfl (wk1 rfl (wk1 (by first | rfl | exact ivx (by omega) | (simp; done)) (wk1 rfl (wk1 rfl (wk1 rfl (wk1 rfl (wk1 rfl (wk1 rfl (wk1 rfl (wk1 rfl (wka (wka (wka (wka (wka (wka (wk1 rfl (wk1 rfl (wk1 rfl (wk1 rfl (wk1 rfl (wk1 rfl (wk1 rfl (wk1 rfl (wk1 rfl (wk1 rfl (wk1 rfl (wk1 rfl wk0))))))))))))))))))))))))))))))))))) rfl)
  · skip
    have hq : q = (n + (thereL t n).1) / 86400 := by omega
    refine w_exit ?_
    refine x_thn ?_
    refine x_thn ?_
    refine x_blk ?_
    refine n_seq ?_
    refine w_seq ?_
    refine w_seq ?_
    refine w_reg ?_
    refine s_val rfl (v_mv lk8) pt23 ?_
    refine s_callp mp0 (rfirst_a) pt24 ?_
    refine s_callp mp0 (rlast_a) pt25 ?_
    refine s_callp (mp1 lk23 (mp1 lk24 (mp1 lk25 mp0))) (rbetween_a) pt26 ?_
    refine s_val rfl (v_notB lk26) pt27 ?_
    refine s_nil ?_
    refine n_seq ?_
    refine w_condB lk27 (fun hc2 => ?_) (fun hc2 => ?_)
    · skip
      have hno : ¬ inD ((n + (thereL t n).1) / 86400) := by rw [← hq]; unfold wi at hc2; unfold inD; simp at hc2; omega
      refine w_seq ?_
      refine w_reg ?_
      refine s_val rfl (v_build LRefA_WallOf_27) pt28 ?_
      refine s_eff rfl rfl (e_store lk4 (cvl lk28 rfl) (hga hn rfl) rfl (Nat.le_of_ble_eq_true rfl) rfl LRefA_sc0_3 (hs1 hn)) ptn ?_
      refine s_val rfl (v_mv lki) pt5 ?_
      refine s_val rfl (v_mv lki) pt6 ?_
      refine s_nil ?_
      refine n_seq ?_
      refine w_rets ?_
      refine r_thn ?_
      refine w_ret (rsn (rm1 (rr_c gt4 (hga hn rfl) (ld1 LRefA_tk0_3 rfl)) (rm1 (rr_t gt5) (rm1 (rr_t gt6) rm0)))) ?_
      refine rt (by first | rfl | (simp only [AV.lt, AV.ltL, Ent.lt, List.all_cons, List.all_nil, Bool.and_true, Bool.and_self, decide_true, chg_lt, nm_lt, int_lt]; done) | (simp [AV.lt, AV.ltL, Ent.lt, chg_lt, nm_lt, int_lt, *]; done) | (simp [AV.lt, AV.ltL, Ent.lt, chg_lt, nm_lt, int_lt, *]; omega)) ?_
      unfold shD shS shE; rw [if_neg hno, if_neg hno, if_neg hno]
    · skip
      have hyes : inD ((n + (thereL t n).1) / 86400) := by rw [← hq]; unfold wi at hc2; unfold inD; simp at hc2; omega
      have hyy : -719162 ≤ q ∧ q ≤ 2932896 := by rw [hq]; exact hyes
      refine w_skip ?_
      refine n_seq ?_
      refine w_seq ?_
      refine w_reg ?_
      refine s_val rfl (v_mv lk8) pt29 ?_
      refine s_callp (mp1 lk29 mp0) (rdateOf_a hyy.1 hyy.2) pt30 ?_
      refine s_val rfl (v_mv lk7) pt31 ?_
      refine s_val rfl (v_mv lk8) pt32 ?_
      refine s_val rfl (v_mul lk32 lki (by omega) (by omega)) pt33 ?_
      refine s_val rfl (v_sub lk31 lk33 (by omega) (by omega)) pt34 ?_
      refine s_eff rfl rfl (e_store lk4 (cvl lk30 rfl) (hga hn rfl) rfl (Nat.le_of_ble_eq_true rfl) rfl LRefA_sc0_3 (hs1 hn)) ptn ?_
      refine s_val rfl (v_mv lk34) pt5 ?_
      refine s_val rfl (v_mv lki) pt6 ?_
      refine s_nil ?_
      refine n_seq ?_
      refine w_rets ?_
      refine w_ret (rsn (rm1 (rr_c gt4 (hga hn rfl) (ld1 LRefA_tk0_3 rfl)) (rm1 (rr_t gt5) (rm1 (rr_t gt6) rm0)))) ?_
      refine rt (by first | rfl | (simp only [AV.lt, AV.ltL, Ent.lt, List.all_cons, List.all_nil, Bool.and_true, Bool.and_self, decide_true, chg_lt, nm_lt, int_lt]; done) | (simp [AV.lt, AV.ltL, Ent.lt, chg_lt, nm_lt, int_lt, *]; done) | (simp [AV.lt, AV.ltL, Ent.lt, chg_lt, nm_lt, int_lt, *]; omega)) ?_
      unfold shD shS shE; rw [if_pos hyes, if_pos hyes, if_pos hyes, hq, show n + (thereL t n).1 - (n + (thereL t n).1) / 86400 * 86400 = (n + (thereL t n).1) % 86400 by omega]
end Go.Proofs.Ytmbebimingkfeaa
