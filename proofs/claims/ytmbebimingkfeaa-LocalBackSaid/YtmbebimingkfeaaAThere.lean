/-
  Contracts on plain data: how it is by a table at a time. Conditions: those that each theorem names.
-/
import Derived.Test.YtmbebimingkfeaaASame
set_option linter.unusedVariables false
set_option linter.unusedSimpArgs false
set_option maxRecDepth 100000
namespace Go.Proofs.Ytmbebimingkfeaa
open Go.Ab Civ
section
theorem AThere_tk_4 {a0 a1 a2 a3 : AV} {l : List AV} : (a0 :: a1 :: a2 :: a3 :: l).take 4 = [a0, a1, a2, a3] := rfl
theorem AThere_tk_3 {a0 a1 a2 : AV} {l : List AV} : (a0 :: a1 :: a2 :: l).take 3 = [a0, a1, a2] := rfl
theorem AThere_sc0_3 {a0 a1 a2 c0 c1 c2 : AV} {l : List AV} : setCells (a0 :: a1 :: a2 :: l) 0 [c0, c1, c2] = c0 :: c1 :: c2 :: l := rfl
theorem AThere_tk0_3 {a0 a1 a2 : AV} {l : List AV} : ((a0 :: a1 :: a2 :: l).drop 0).take 3 = [a0, a1, a2] := rfl
theorem AThere_There_21 {τ : Operand → AV} {y0 y1 : Operand} {x0_0 x0_1 x0_2 x1_0 : AV} (h0 : cellsV (τ y0) = some [x0_0, x0_1, x0_2]) (l0 : [x0_0, x0_1, x0_2].all leaf = true) (h1 : cellsV (τ y1) = some [x1_0]) (l1 : [x1_0].all leaf = true) : fillAV τ [(0, 3, y0), (3, 1, y1)] [(.v (.int .i64 0)), (.v (.int .i64 0)), (.v (.string ⟨#[]⟩)), (.sl 0 0 true [])] = some [x0_0, x0_1, x0_2, x1_0] := by
  simp only [fillAV, h0, l0, h1, l1]
  rfl
theorem AThere_There_22 {τ : Operand → AV} {y0 : Operand} {x0_0 x0_1 x0_2 x0_3 : AV} (h0 : cellsV (τ y0) = some [x0_0, x0_1, x0_2, x0_3]) (l0 : [x0_0, x0_1, x0_2, x0_3].all leaf = true) : fillAV τ [(0, 4, y0)] [(.v (.int .i64 0)), (.v (.int .i64 0)), (.v (.string ⟨#[]⟩)), (.sl 0 0 true [])] = some [x0_0, x0_1, x0_2, x0_3] := by
  simp only [fillAV, h0, l0]
  rfl
theorem AThere_lap0 { e : Ent} : ([] : AH) ++ [e] = [e] := rfl
theorem AThere_lj3_1 {e0 e1 e2 d0 : Ent} : ([e0, e1, e2] : AH) ++ [d0] = [e0, e1, e2, d0] := rfl
theorem AThere_tk0_4 {a0 a1 a2 a3 : AV} {l : List AV} : ((a0 :: a1 :: a2 :: a3 :: l).drop 0).take 4 = [a0, a1, a2, a3] := rfl
theorem AThere_Look_9 {τ : Operand → AV} : fillAV τ [] [(.v (.int .i64 0)), (.v (.int .i64 0)), (.v (.string ⟨#[]⟩))] = some [(.v (.int .i64 0)), (.v (.int .i64 0)), (.v (.string ⟨#[]⟩))] := rfl
theorem AThere_Look_16 {τ : Operand → AV} : fillAV τ [] [(.v (.int .i64 0)), (.v (.int .i64 0)), (.v (.string ⟨#[]⟩))] = some [(.v (.int .i64 0)), (.v (.int .i64 0)), (.v (.string ⟨#[]⟩))] := rfl
end
/-- slices.IndexFunc[[]api.Change,api.Change] -/
def c85 : AC := (.seq (.reg [⟨(some 4), none, (.mv (.const (.int .i64 0)))⟩]) (.seq (.seq (.reg [⟨(some 6), none, (.mv (.tmp 0))⟩, ⟨(some 7), none, (.len false (.tmp 6))⟩, ⟨(some 8), none, (.mv (.const (.int .i64 0)))⟩]) (.block 0 (.loop (.seq (.reg [⟨(some 9), none, (.bin .lss (.tmp 8) (.tmp 7))⟩]) (.seq (.cond (.tmp 9) .skip (.exit 0)) (.seq (.block 1 (.seq (.reg [⟨(some 10), none, (.mv (.tmp 8))⟩, ⟨(some 5), none, (.mv (.tmp 10))⟩]) (.seq (.reg [⟨(some 11), none, (.mv (.tmp 1))⟩, ⟨(some 12), none, (.mv (.tmp 0))⟩, ⟨(some 13), none, (.mv (.tmp 5))⟩, ⟨(some 14), none, (.ia 4 (.tmp 12) (.tmp 13))⟩, ⟨(some 15), none, (.load true 4 (.tmp 14))⟩, ⟨(some 16), none, (.call (.tmp 11) [(.tmp 15)])⟩]) (.cond (.tmp 16) (.seq (.reg [⟨(some 17), none, (.mv (.tmp 5))⟩, ⟨(some 4), none, (.mv (.tmp 17))⟩]) .ret) .skip)))) (.reg [⟨(some 18), none, (.bin .add (.tmp 8) (.const (.int .i64 1)))⟩, ⟨(some 8), none, (.mv (.tmp 18))⟩]))))))) (.seq (.reg [⟨(some 4), none, (.mv (.const (.int .i64 (-1))))⟩]) .ret)))
theorem k85 : compF Try.prog 85 = some ⟨c85, [(.tmp 4)], 19⟩ := by kernel_rfl
theorem i85 {a0 a1 : AV} {h : AH} {R : AE → Prop} (hw : ∀ n, h.length = n → (∀ e ∈ h, e.lt n = true) → AV.ltL n [a0, a1] = true → AV.bdL [a0, a1] → aw Try.prog n c85 (retA [(.tmp 4)] fun x h' => ∃ z, h' = h ++ z ∧ x.lt n = true ∧ R x) [a0, a1, .any, .any, .any, .any, .any, .any, .any, .any, .any, .any, .any, .any, .any, .any, .any, .any, .any] (h ++ [])) : ACalls Try.prog 85 [a0, a1] h fun x h' => h' = h ∧ R x := ACalls.into k85 rfl hw
theorem w85 {a0 a1 : AV} {h : AH} {res : AV} (hw : ∀ n, h.length = n → (∀ e ∈ h, e.lt n = true) → AV.ltL n [a0, a1] = true → AV.bdL [a0, a1] → aw Try.prog n c85 (retA [(.tmp 4)] fun x h' => ∃ z, h' = h ++ z ∧ x.lt n = true ∧ ∃ c, x = .ret c ∧ Wk c res) [a0, a1, .any, .any, .any, .any, .any, .any, .any, .any, .any, .any, .any, .any, .any, .any, .any, .any, .any] (h ++ [])) : ACalls Try.prog 85 [a0, a1] h fun x h' => h' = h ∧ x = .ret res := ACalls.weak (ACalls.into k85 rfl hw)
theorem n85 {a0 a1 : AV} {h : AH} {R : AE → AH → Prop} (hw : ∀ n, h.length = n → (∀ e ∈ h, e.lt n = true) → AV.ltL n [a0, a1] = true → AV.bdL [a0, a1] → aw Try.prog n c85 (retA [(.tmp 4)] R) [a0, a1, .any, .any, .any, .any, .any, .any, .any, .any, .any, .any, .any, .any, .any, .any, .any, .any, .any] (h ++ [])) : ACalls Try.prog 85 [a0, a1] h R := ACalls.intoN k85 rfl hw
theorem j85 {a0 a1 : AV} {h : AH} {R : AE → AH → Prop} (hw : ∀ n, h.length = n → (∀ e ∈ h, e.lt n = true) → AV.ltL n [a0, a1] = true → AV.bdL [a0, a1] → aw Try.prog n c85 (retA [(.tmp 4)] fun x h' => ∃ y z, h' = y ++ z ∧ y.length = n ∧ (∀ e ∈ y, e.lt n = true) ∧ x.lt n = true ∧ R x y) [a0, a1, .any, .any, .any, .any, .any, .any, .any, .any, .any, .any, .any, .any, .any, .any, .any, .any, .any] (h ++ [])) : ACalls Try.prog 85 [a0, a1] h R := ACalls.intoG k85 rfl hw
/-- (*table.maker).last -/
def c87 : AC := (.seq (.reg [⟨(some 2), none, (.new 23 3 [(.v (.int .i64 0)), (.v (.int .i64 0)), (.v (.string ⟨#[]⟩))])⟩]) (.seq (.seq (.reg [⟨(some 4), none, (.mv (.tmp 0))⟩, ⟨(some 5), none, (.nck (.tmp 4))⟩, ⟨(some 6), none, (.fa 0 (.tmp 5))⟩, ⟨(some 7), none, (.fa 3 (.tmp 6))⟩, ⟨(some 8), none, (.load false 1 (.tmp 7))⟩, ⟨(some 9), none, (.len false (.tmp 8))⟩, ⟨(some 3), none, (.mv (.tmp 9))⟩]) (.seq (.reg [⟨(some 10), none, (.mv (.tmp 3))⟩, ⟨(some 11), none, (.bin .gtr (.tmp 10) (.const (.int .i64 0)))⟩]) (.cond (.tmp 11) (.seq (.reg [⟨(some 12), none, (.mv (.tmp 0))⟩, ⟨(some 13), none, (.nck (.tmp 12))⟩, ⟨(some 14), none, (.fa 0 (.tmp 13))⟩, ⟨(some 15), none, (.fa 3 (.tmp 14))⟩, ⟨(some 16), none, (.load false 1 (.tmp 15))⟩, ⟨(some 17), none, (.mv (.tmp 3))⟩, ⟨(some 18), none, (.bin .sub (.tmp 17) (.const (.int .i64 1)))⟩, ⟨(some 19), none, (.ia 4 (.tmp 16) (.tmp 18))⟩, ⟨(some 20), none, (.fa 1 (.tmp 19))⟩, ⟨(some 21), none, (.load true 3 (.tmp 20))⟩, ⟨none, none, (.store 3 (.tmp 2) (.tmp 21))⟩]) .ret) .skip))) (.seq (.reg [⟨(some 22), none, (.mv (.tmp 0))⟩, ⟨(some 23), none, (.nck (.tmp 22))⟩, ⟨(some 24), none, (.fa 0 (.tmp 23))⟩, ⟨(some 25), none, (.fa 0 (.tmp 24))⟩, ⟨(some 26), none, (.load true 3 (.tmp 25))⟩, ⟨none, none, (.store 3 (.tmp 2) (.tmp 26))⟩]) .ret)))
theorem k87 : compF Try.prog 87 = some ⟨c87, [(.cell 2 true 3)], 27⟩ := by kernel_rfl
theorem i87 {a0 : AV} {h : AH} {R : AE → Prop} (hw : ∀ n, h.length = n → (∀ e ∈ h, e.lt n = true) → AV.ltL n [a0] = true → AV.bdL [a0] → aw Try.prog n c87 (retA [(.cell 2 true 3)] fun x h' => ∃ z, h' = h ++ z ∧ x.lt n = true ∧ R x) [a0, .any, .any, .any, .any, .any, .any, .any, .any, .any, .any, .any, .any, .any, .any, .any, .any, .any, .any, .any, .any, .any, .any, .any, .any, .any, .any] (h ++ [])) : ACalls Try.prog 87 [a0] h fun x h' => h' = h ∧ R x := ACalls.into k87 rfl hw
theorem w87 {a0 : AV} {h : AH} {res : AV} (hw : ∀ n, h.length = n → (∀ e ∈ h, e.lt n = true) → AV.ltL n [a0] = true → AV.bdL [a0] → aw Try.prog n c87 (retA [(.cell 2 true 3)] fun x h' => ∃ z, h' = h ++ z ∧ x.lt n = true ∧ ∃ c, x = .ret c ∧ Wk c res) [a0, .any, .any, .any, .any, .any, .any, .any, .any, .any, .any, .any, .any, .any, .any, .any, .any, .any, .any, .any, .any, .any, .any, .any, .any, .any, .any] (h ++ [])) : ACalls Try.prog 87 [a0] h fun x h' => h' = h ∧ x = .ret res := ACalls.weak (ACalls.into k87 rfl hw)
theorem n87 {a0 : AV} {h : AH} {R : AE → AH → Prop} (hw : ∀ n, h.length = n → (∀ e ∈ h, e.lt n = true) → AV.ltL n [a0] = true → AV.bdL [a0] → aw Try.prog n c87 (retA [(.cell 2 true 3)] R) [a0, .any, .any, .any, .any, .any, .any, .any, .any, .any, .any, .any, .any, .any, .any, .any, .any, .any, .any, .any, .any, .any, .any, .any, .any, .any, .any] (h ++ [])) : ACalls Try.prog 87 [a0] h R := ACalls.intoN k87 rfl hw
theorem j87 {a0 : AV} {h : AH} {R : AE → AH → Prop} (hw : ∀ n, h.length = n → (∀ e ∈ h, e.lt n = true) → AV.ltL n [a0] = true → AV.bdL [a0] → aw Try.prog n c87 (retA [(.cell 2 true 3)] fun x h' => ∃ y z, h' = y ++ z ∧ y.length = n ∧ (∀ e ∈ y, e.lt n = true) ∧ x.lt n = true ∧ R x y) [a0, .any, .any, .any, .any, .any, .any, .any, .any, .any, .any, .any, .any, .any, .any, .any, .any, .any, .any, .any, .any, .any, .any, .any, .any, .any, .any] (h ++ [])) : ACalls Try.prog 87 [a0] h R := ACalls.intoG k87 rfl hw
/-- table.There$1 -/
def c86 : AC := (.seq (.reg [⟨(some 2), none, (.box 46 4 (.tmp 0))⟩, ⟨(some 3), none, (.mv (.const (.bool false)))⟩]) (.seq (.reg [⟨(some 4), none, (.fa 0 (.tmp 2))⟩, ⟨(some 5), none, (.load false 1 (.tmp 4))⟩, ⟨(some 6), none, (.load false 1 (.tmp 1))⟩, ⟨(some 7), none, (.bin .gtr (.tmp 5) (.tmp 6))⟩, ⟨(some 3), none, (.mv (.tmp 7))⟩]) .ret))
theorem k86 : compF Try.prog 86 = some ⟨c86, [(.tmp 3)], 8⟩ := by kernel_rfl
theorem i86 {a0 a1 : AV} {h : AH} {R : AE → Prop} (hw : ∀ n, h.length = n → (∀ e ∈ h, e.lt n = true) → AV.ltL n [a0, a1] = true → AV.bdL [a0, a1] → aw Try.prog n c86 (retA [(.tmp 3)] fun x h' => ∃ z, h' = h ++ z ∧ x.lt n = true ∧ R x) [a0, a1, .any, .any, .any, .any, .any, .any] (h ++ [])) : ACalls Try.prog 86 [a0, a1] h fun x h' => h' = h ∧ R x := ACalls.into k86 rfl hw
theorem w86 {a0 a1 : AV} {h : AH} {res : AV} (hw : ∀ n, h.length = n → (∀ e ∈ h, e.lt n = true) → AV.ltL n [a0, a1] = true → AV.bdL [a0, a1] → aw Try.prog n c86 (retA [(.tmp 3)] fun x h' => ∃ z, h' = h ++ z ∧ x.lt n = true ∧ ∃ c, x = .ret c ∧ Wk c res) [a0, a1, .any, .any, .any, .any, .any, .any] (h ++ [])) : ACalls Try.prog 86 [a0, a1] h fun x h' => h' = h ∧ x = .ret res := ACalls.weak (ACalls.into k86 rfl hw)
theorem n86 {a0 a1 : AV} {h : AH} {R : AE → AH → Prop} (hw : ∀ n, h.length = n → (∀ e ∈ h, e.lt n = true) → AV.ltL n [a0, a1] = true → AV.bdL [a0, a1] → aw Try.prog n c86 (retA [(.tmp 3)] R) [a0, a1, .any, .any, .any, .any, .any, .any] (h ++ [])) : ACalls Try.prog 86 [a0, a1] h R := ACalls.intoN k86 rfl hw
theorem j86 {a0 a1 : AV} {h : AH} {R : AE → AH → Prop} (hw : ∀ n, h.length = n → (∀ e ∈ h, e.lt n = true) → AV.ltL n [a0, a1] = true → AV.bdL [a0, a1] → aw Try.prog n c86 (retA [(.tmp 3)] fun x h' => ∃ y z, h' = y ++ z ∧ y.length = n ∧ (∀ e ∈ y, e.lt n = true) ∧ x.lt n = true ∧ R x y) [a0, a1, .any, .any, .any, .any, .any, .any] (h ++ [])) : ACalls Try.prog 86 [a0, a1] h R := ACalls.intoG k86 rfl hw
/-- table.There -/
def c69 : AC := (.seq (.reg [⟨(some 2), none, (.box 26 4 (.tmp 0))⟩, ⟨(some 3), none, (.box 3 1 (.tmp 1))⟩, ⟨(some 4), none, (.new 23 3 [(.v (.int .i64 0)), (.v (.int .i64 0)), (.v (.string ⟨#[]⟩))])⟩]) (.seq (.reg [⟨(some 7), none, (.fa 3 (.tmp 2))⟩, ⟨(some 8), none, (.load false 1 (.tmp 7))⟩, ⟨(some 9), none, (.mkfn 86 [(.tmp 3)])⟩, ⟨(some 10), none, (.call (.func 85) [(.tmp 8), (.tmp 9)])⟩, ⟨(some 5), none, (.mv (.tmp 10))⟩]) (.seq (.seq (.reg [⟨(some 11), none, (.mv (.tmp 5))⟩, ⟨(some 12), none, (.bin .lss (.tmp 11) (.const (.int .i64 0)))⟩]) (.cond (.tmp 12) (.reg [⟨(some 13), none, (.fa 3 (.tmp 2))⟩, ⟨(some 14), none, (.load false 1 (.tmp 13))⟩, ⟨(some 15), none, (.len false (.tmp 14))⟩, ⟨(some 5), none, (.mv (.tmp 15))⟩]) .skip)) (.seq (.drw [⟨(some 16), none, (.fa 0 (.tmp 2))⟩, ⟨(some 17), none, (.load true 3 (.tmp 16))⟩, ⟨(some 18), none, (.fa 3 (.tmp 2))⟩, ⟨(some 19), none, (.load false 1 (.tmp 18))⟩, ⟨(some 20), none, (.mv (.tmp 5))⟩, ⟨(some 21), none, (.slc 4 (.tmp 19) none (some (.tmp 20)) none)⟩, ⟨(some 22), none, (.build [(.v (.int .i64 0)), (.v (.int .i64 0)), (.v (.string ⟨#[]⟩)), (.sl 0 0 true [])] [(0, (3, (.tmp 17))), (3, (1, (.tmp 21)))])⟩, ⟨(some 23), none, (.build [(.v (.int .i64 0)), (.v (.int .i64 0)), (.v (.string ⟨#[]⟩)), (.sl 0 0 true [])] [(0, (4, (.tmp 22)))])⟩, ⟨(some 24), none, (.box 114 4 (.tmp 23))⟩, ⟨(some 6), none, (.mv (.tmp 24))⟩] [] []) (.seq (.reg [⟨(some 25), none, (.mv (.tmp 6))⟩, ⟨(some 26), none, (.call (.func 87) [(.tmp 25)])⟩, ⟨none, none, (.store 3 (.tmp 4) (.tmp 26))⟩]) .ret)))))
theorem k69 : compF Try.prog 69 = some ⟨c69, [(.cell 4 true 3)], 27⟩ := by kernel_rfl
theorem i69 {a0 a1 : AV} {h : AH} {R : AE → Prop} (hw : ∀ n, h.length = n → (∀ e ∈ h, e.lt n = true) → AV.ltL n [a0, a1] = true → AV.bdL [a0, a1] → aw Try.prog n c69 (retA [(.cell 4 true 3)] fun x h' => ∃ z, h' = h ++ z ∧ x.lt n = true ∧ R x) [a0, a1, .any, .any, .any, .any, .any, .any, .any, .any, .any, .any, .any, .any, .any, .any, .any, .any, .any, .any, .any, .any, .any, .any, .any, .any, .any] (h ++ [])) : ACalls Try.prog 69 [a0, a1] h fun x h' => h' = h ∧ R x := ACalls.into k69 rfl hw
theorem w69 {a0 a1 : AV} {h : AH} {res : AV} (hw : ∀ n, h.length = n → (∀ e ∈ h, e.lt n = true) → AV.ltL n [a0, a1] = true → AV.bdL [a0, a1] → aw Try.prog n c69 (retA [(.cell 4 true 3)] fun x h' => ∃ z, h' = h ++ z ∧ x.lt n = true ∧ ∃ c, x = .ret c ∧ Wk c res) [a0, a1, .any, .any, .any, .any, .any, .any, .any, .any, .any, .any, .any, .any, .any, .any, .any, .any, .any, .any, .any, .any, .any, .any, .any, .any, .any] (h ++ [])) : ACalls Try.prog 69 [a0, a1] h fun x h' => h' = h ∧ x = .ret res := ACalls.weak (ACalls.into k69 rfl hw)
theorem n69 {a0 a1 : AV} {h : AH} {R : AE → AH → Prop} (hw : ∀ n, h.length = n → (∀ e ∈ h, e.lt n = true) → AV.ltL n [a0, a1] = true → AV.bdL [a0, a1] → aw Try.prog n c69 (retA [(.cell 4 true 3)] R) [a0, a1, .any, .any, .any, .any, .any, .any, .any, .any, .any, .any, .any, .any, .any, .any, .any, .any, .any, .any, .any, .any, .any, .any, .any, .any, .any] (h ++ [])) : ACalls Try.prog 69 [a0, a1] h R := ACalls.intoN k69 rfl hw
theorem j69 {a0 a1 : AV} {h : AH} {R : AE → AH → Prop} (hw : ∀ n, h.length = n → (∀ e ∈ h, e.lt n = true) → AV.ltL n [a0, a1] = true → AV.bdL [a0, a1] → aw Try.prog n c69 (retA [(.cell 4 true 3)] fun x h' => ∃ y z, h' = y ++ z ∧ y.length = n ∧ (∀ e ∈ y, e.lt n = true) ∧ x.lt n = true ∧ R x y) [a0, a1, .any, .any, .any, .any, .any, .any, .any, .any, .any, .any, .any, .any, .any, .any, .any, .any, .any, .any, .any, .any, .any, .any, .any, .any, .any] (h ++ [])) : ACalls Try.prog 69 [a0, a1] h R := ACalls.intoG k69 rfl hw
/-- table.Look -/
def c49 : AC := (.seq (.reg [⟨(some 2), none, (.box 26 4 (.tmp 0))⟩, ⟨(some 4), none, (.new 23 3 [(.v (.int .i64 0)), (.v (.int .i64 0)), (.v (.string ⟨#[]⟩))])⟩, ⟨(some 5), none, (.mv (.const (.int .i64 0)))⟩]) (.seq (.seq (.reg [⟨(some 7), none, (.load true 4 (.tmp 2))⟩, ⟨(some 8), none, (.call (.func 35) [(.tmp 7)])⟩, ⟨(some 6), none, (.mv (.tmp 8))⟩]) (.seq (.reg [⟨(some 9), none, (.mv (.tmp 6))⟩, ⟨(some 10), none, (.bin .neq (.tmp 9) (.const (.int .i64 0)))⟩]) (.cond (.tmp 10) (.seq (.reg [⟨(some 11), none, (.build [(.v (.int .i64 0)), (.v (.int .i64 0)), (.v (.string ⟨#[]⟩))] [])⟩, ⟨(some 12), none, (.mv (.tmp 6))⟩, ⟨none, none, (.store 3 (.tmp 4) (.tmp 11))⟩, ⟨(some 5), none, (.mv (.tmp 12))⟩]) .ret) .skip))) (.seq (.seq (.reg [⟨(some 13), none, (.mv (.tmp 1))⟩, ⟨(some 14), none, (.call (.func 61) [(.tmp 13)])⟩, ⟨(some 15), none, (.un .not (.tmp 14))⟩]) (.cond (.tmp 15) (.seq (.reg [⟨(some 16), none, (.build [(.v (.int .i64 0)), (.v (.int .i64 0)), (.v (.string ⟨#[]⟩))] [])⟩, ⟨none, none, (.store 3 (.tmp 4) (.tmp 16))⟩, ⟨(some 5), none, (.mv (.const (.int .i64 3)))⟩]) .ret) .skip)) (.seq (.reg [⟨(some 17), none, (.load true 4 (.tmp 2))⟩, ⟨(some 18), none, (.mv (.tmp 1))⟩, ⟨(some 19), none, (.call (.func 69) [(.tmp 17), (.tmp 18)])⟩, ⟨none, none, (.store 3 (.tmp 4) (.tmp 19))⟩, ⟨(some 5), none, (.mv (.const (.int .i64 0)))⟩]) .ret))))
theorem k49 : compF Try.prog 49 = some ⟨c49, [(.cell 4 true 3), (.tmp 5)], 20⟩ := by kernel_rfl
theorem i49 {a0 a1 : AV} {h : AH} {R : AE → Prop} (hw : ∀ n, h.length = n → (∀ e ∈ h, e.lt n = true) → AV.ltL n [a0, a1] = true → AV.bdL [a0, a1] → aw Try.prog n c49 (retA [(.cell 4 true 3), (.tmp 5)] fun x h' => ∃ z, h' = h ++ z ∧ x.lt n = true ∧ R x) [a0, a1, .any, .any, .any, .any, .any, .any, .any, .any, .any, .any, .any, .any, .any, .any, .any, .any, .any, .any] (h ++ [])) : ACalls Try.prog 49 [a0, a1] h fun x h' => h' = h ∧ R x := ACalls.into k49 rfl hw
theorem w49 {a0 a1 : AV} {h : AH} {res : AV} (hw : ∀ n, h.length = n → (∀ e ∈ h, e.lt n = true) → AV.ltL n [a0, a1] = true → AV.bdL [a0, a1] → aw Try.prog n c49 (retA [(.cell 4 true 3), (.tmp 5)] fun x h' => ∃ z, h' = h ++ z ∧ x.lt n = true ∧ ∃ c, x = .ret c ∧ Wk c res) [a0, a1, .any, .any, .any, .any, .any, .any, .any, .any, .any, .any, .any, .any, .any, .any, .any, .any, .any, .any] (h ++ [])) : ACalls Try.prog 49 [a0, a1] h fun x h' => h' = h ∧ x = .ret res := ACalls.weak (ACalls.into k49 rfl hw)
theorem n49 {a0 a1 : AV} {h : AH} {R : AE → AH → Prop} (hw : ∀ n, h.length = n → (∀ e ∈ h, e.lt n = true) → AV.ltL n [a0, a1] = true → AV.bdL [a0, a1] → aw Try.prog n c49 (retA [(.cell 4 true 3), (.tmp 5)] R) [a0, a1, .any, .any, .any, .any, .any, .any, .any, .any, .any, .any, .any, .any, .any, .any, .any, .any, .any, .any] (h ++ [])) : ACalls Try.prog 49 [a0, a1] h R := ACalls.intoN k49 rfl hw
theorem j49 {a0 a1 : AV} {h : AH} {R : AE → AH → Prop} (hw : ∀ n, h.length = n → (∀ e ∈ h, e.lt n = true) → AV.ltL n [a0, a1] = true → AV.bdL [a0, a1] → aw Try.prog n c49 (retA [(.cell 4 true 3), (.tmp 5)] fun x h' => ∃ y z, h' = y ++ z ∧ y.length = n ∧ (∀ e ∈ y, e.lt n = true) ∧ x.lt n = true ∧ R x y) [a0, a1, .any, .any, .any, .any, .any, .any, .any, .any, .any, .any, .any, .any, .any, .any, .any, .any, .any, .any] (h ++ [])) : ACalls Try.prog 49 [a0, a1] h R := ACalls.intoG k49 rfl hw
abbrev locC (l : Loc) : List AV := [iv l.1, iv l.2.1, sv l.2.2]
theorem there1_a {c : Chg} {n : Int} {h : AH} : ACalls Try.prog 86 [.agg [iv c.1, iv c.2.1, iv c.2.2.1, sv c.2.2.2], .rp [iv n]] h fun x h' => h' = h ∧ x = .ret (bv (decide (n < c.1))) := by
  refine i86 ?_
  intro N hn hlt hlA hbd
  try simp only [AV.bdL, AV.bd, and_true, true_and] at hbd
  refine w_seq ?_
  refine w_reg ?_
  refine s_eff rfl rfl (e_box (cvl lk0 rfl) rfl (hl0 hn) ha0) pt2 ?_
  refine s_val rfl (v_mv lkb) pt3 ?_
  refine s_nil ?_
  refine n_seq ?_
  refine w_seq ?_
  refine w_reg ?_
  refine s_val rfl (v_fap0 lk2) pt4 ?_
  refine s_val rfl (v_loadp lk4 (hga hn rfl) gt0) pt5 ?_
  refine s_val rfl (v_loadr lk1 gt0) pt6 ?_
  refine s_val rfl (v_gtr lk5 lk6) pt7 ?_
  refine s_val rfl (v_mv lk7) pt3 ?_
  refine s_nil ?_
  refine n_seq ?_
  refine w_rets ?_
  refine w_ret (rs1 (rr_t gt3)) ?_
  refine rt (by first | rfl | (simp only [AV.lt, AV.ltL, Ent.lt, List.all_cons, List.all_nil, Bool.and_true, Bool.and_self, decide_true, chg_lt]; done) | (simp [AV.lt, AV.ltL, Ent.lt, chg_lt, *]; done) | (simp [AV.lt, AV.ltL, Ent.lt, chg_lt, *]; omega)) ?_
  refine bvx ?_; first | rfl | (rw [Bool.eq_iff_iff]; simp)
theorem find_is {p : Chg → Bool} {l : List Chg} {k : Nat} (hk : k < l.length) (h1 : p l[k] = true) (h2 : ∀ j (hj : j < k), p (l[j]'(by omega)) = false) : l.findIdx p = k := by
  have hlt : l.findIdx p < l.length := List.findIdx_lt_length.2 ⟨_, List.getElem_mem hk, h1⟩
  rcases Nat.lt_trichotomy (l.findIdx p) k with e | e | e
  · have a := h2 _ e
    have b := List.findIdx_getElem (w := hlt)
    rw [a] at b; cases b
  · exact e
  · have := List.not_of_lt_findIdx e
    rw [h1] at this; cases this
theorem indexF_a {p : Chg → Bool} {f : FuncId} {caps : List AV} (hp : ∀ (c : Chg) (h : AH), ACalls Try.prog f ([.agg [iv c.1, iv c.2.1, iv c.2.2.1, sv c.2.2.2]] ++ caps) h fun x h' => h' = h ∧ x = .ret (bv (p c))) {l : List Chg} {full : Bool} {h : AH} (hl : l.length ≤ 9223372036854775807) :
    ACalls Try.prog 85 [.sl l.length 4 full (rows chgC l), .clo (.func f) caps] h fun x h' => h' = h ∧ x = .ret (iv (if l.findIdx p < l.length then (l.findIdx p : Int) else -1)) := by
  refine i85 ?_
  intro N hn hlt hlA hbd
  try simp only [AV.bdL, AV.bd, and_true, true_and] at hbd
  refine w_seq ?_
  refine w_reg ?_
  refine s_val rfl (v_mv lki) pt4 ?_
  refine s_nil ?_
  refine n_seq ?_
  refine w_seq ?_
  refine w_seq ?_
  refine w_reg ?_
  refine s_val rfl (v_mv lk0) pt6 ?_
  refine s_val rfl (v_lenL lk6) pt7 ?_
  refine s_val rfl (v_mv lki) pt8 ?_
  refine s_nil ?_
  refine n_seq ?_
  refine w_block ?_
  refine w_loop (ι := Nat) (fun (k : Nat) => [(8, iv (k : Int)), (4, .any), (5, .any), (9, .any), (10, .any), (11, .any), (12, .any), (13, .any), (14, .any), (15, .any), (16, .any), (17, .any), (18, .any)]) (fun (k : Nat) => []) (fun (k : Nat) => k ≤ l.length ∧ ∀ j (hj : j < l.length), j < k → p l[j] = false) (fun (k : Nat) => l.length - k) (0) (by exact ⟨by omega, fun j hj h0 => absurd h0 (by omega)⟩) (by try simp only [setsT, setsE, List.set_cons_zero, List.set_cons_succ]; exact ALe.same (wk1 rfl (wk1 rfl (wk1 rfl (wk1 rfl (wka (wka (wk1 rfl (wk1 rfl (wk1 (by first | rfl | exact ivx (by omega) | (simp; done)) (wka (wka (wka (wka (wka (wka (wka (wka (wka (wka wk0))))))))))))))))))) rfl) ?_
  rintro k hi1
  try simp only [setsT, setsE, List.set_cons_zero, List.set_cons_succ]
  obtain ⟨hk1, hk2⟩ := hi1
  refine w_seq ?_
  refine w_reg ?_
  refine s_val rfl (v_lss lk8 lk7) pt9 ?_
  refine s_nil ?_
  refine n_seq ?_
  refine w_seq ?_
  first | refine w_cond lk9 (fun hc1 => ?_) (fun hc1 => ?_) | refine w_condB lk9 (fun hc1 => ?_) (fun hc1 => ?_)
  · skip
    have hk : k < l.length := by omega
    refine w_skip ?_
    refine n_seq ?_
    refine w_seq ?_
    refine w_block ?_
    refine w_seq ?_
    refine w_reg ?_
    refine s_val rfl (v_mv lk8) pt10 ?_
    refine s_val rfl (v_mv lk10) pt5 ?_
    refine s_nil ?_
    refine n_seq ?_
    refine w_seq ?_
    refine w_reg ?_
    refine s_val rfl (v_mv lk1) pt11 ?_
    refine s_val rfl (v_mv lk0) pt12 ?_
    refine s_val rfl (v_mv lk5) pt13 ?_
    refine s_val rfl (v_iaR lk12 lk13 chg_len1 (Nat.le_of_ble_eq_true rfl) (by first | rfl | omega) (by omega) (by first | rfl | omega) rfl) pt14 ?_
    refine s_val rfl (v_loadrA lk14 AThere_tk_4 rfl) pt15 ?_
    refine s_callC lk11 (mp1 lk15 mp0) (hp l[k] _) pt16 ?_
    refine s_nil ?_
    refine n_seq ?_
    refine w_condB lk16 (fun hc2 => ?_) (fun hc2 => ?_)
    · skip
      refine w_seq ?_
      refine w_reg ?_
      refine s_val rfl (v_mv lk5) pt17 ?_
      refine s_val rfl (v_mv lk17) pt4 ?_
      refine s_nil ?_
      refine n_seq ?_
      refine w_rets ?_
      refine r_blk ?_
      refine r_thn ?_
      refine r_thn ?_
      refine r_blk ?_
      refine r_thn ?_
      refine w_ret (rs1 (rr_t gt4)) ?_
      refine rt (by first | rfl | (simp only [AV.lt, AV.ltL, Ent.lt, List.all_cons, List.all_nil, Bool.and_true, Bool.and_self, decide_true, chg_lt]; done) | (simp [AV.lt, AV.ltL, Ent.lt, chg_lt, *]; done) | (simp [AV.lt, AV.ltL, Ent.lt, chg_lt, *]; omega)) ?_
      refine ivx ?_
      have hf : l.findIdx p = k := find_is hk (by simpa using hc2) (fun j hj => hk2 j (by omega) hj)
      rw [hf, if_pos hk]
    · skip
      refine w_skip ?_
      refine n_blk ?_
      refine n_seq ?_
      refine w_reg ?_
      refine s_val rfl (v_add lk8 lki (by omega) (by omega)) pt18 ?_
      refine s_val rfl (v_mv lk18) pt8 ?_
      refine s_nil ?_
      refine n_thn ?_
      refine LoopTo.mk (k + 1) (by omega) (by (try dsimp only); refine ⟨by omega, fun j hj h0 => ?_⟩; by_cases e : j = k; subst e; simpa using hc2; exact hk2 j hj (by omega)) (by (try dsimp only); (try simp only [setsT, setsE, List.set_cons_zero, List.set_cons_succ]); exact ALe.same (wk1 rfl (wk1 rfl (wk1 rfl (wk1 rfl (wka (wka (wk1 rfl (wk1 rfl (wk1 (by first | rfl | exact ivx (by omega) | (simp; done)) (wka (wka (wka (wka (wka (wka (wka (wka (wka (wka wk0))))))))))))))))))) rfl)
  · skip
    refine w_exit ?_
    refine x_thn ?_
    refine x_thn ?_
    refine x_blk ?_
    refine n_seq ?_
    refine w_seq ?_
    refine w_reg ?_
    refine s_val rfl (v_mv lki) pt4 ?_
    refine s_nil ?_
    refine n_seq ?_
    refine w_rets ?_
    refine w_ret (rs1 (rr_t gt4)) ?_
    refine rt (by first | rfl | (simp only [AV.lt, AV.ltL, Ent.lt, List.all_cons, List.all_nil, Bool.and_true, Bool.and_self, decide_true, chg_lt]; done) | (simp [AV.lt, AV.ltL, Ent.lt, chg_lt, *]; done) | (simp [AV.lt, AV.ltL, Ent.lt, chg_lt, *]; omega)) ?_
    refine ivx ?_
    have hf : l.findIdx p = l.length := List.findIdx_eq_length.2 (fun x hx => by obtain ⟨i, hi, rfl⟩ := List.getElem_of_mem hx; exact hk2 i hi (by omega))
    rw [hf, if_neg (by omega)]
/-- the last Local so far -/
def lastL (a : Loc) : List Chg → Loc
  | [] => a
  | c :: l => lastL c.2 l
theorem lastL_get : ∀ {a : Loc} {l : List Chg} (h : 0 < l.length), lastL a l = (l[l.length - 1]'(by omega)).2
  | a, [c], _ => rfl
  | a, c :: d :: l, _ => by
    rw [lastL, lastL_get (l := d :: l) (by simp)]
    rfl
def afterI (t : Tab) (n : Int) : Nat := t.2.findIdx (fun c => decide (n < c.1))
theorem afterI_le (t : Tab) (n : Int) : afterI t n ≤ t.2.length := List.findIdx_le_length
def thereL (t : Tab) (n : Int) : Loc := lastL t.1 (t.2.take (afterI t n))
theorem mlast_a {a b : Int} {c : ByteArray} {l : List Chg} {full : Bool} {id v0 ty : Nat} {h : AH} (h1 : h[id]? = some (.mk v0 ty 4 [iv a, iv b, sv c, .sl l.length 4 full (rows chgC l)])) (hl : l.length ≤ 9223372036854775807) :
    ACalls Try.prog 87 [.ptr id v0 0] h fun x h' => h' = h ∧ x = .ret (.agg [iv (lastL (a, b, c) l).1, iv (lastL (a, b, c) l).2.1, sv (lastL (a, b, c) l).2.2]) := by
  have hid : id < h.length := (List.getElem?_eq_some_iff.1 h1).1
  refine i87 ?_
  intro N hn hlt hlA hbd
  try simp only [AV.bdL, AV.bd, and_true, true_and] at hbd
  refine w_seq ?_
  refine w_reg ?_
  refine s_eff rfl rfl (e_new (hl0 hn) ha0) pt2 ?_
  refine s_nil ?_
  refine n_seq ?_
  refine w_seq ?_
  refine w_seq ?_
  refine w_reg ?_
  refine s_val rfl (v_mv lk0) pt4 ?_
  refine s_val rfl (v_nckp lk4) pt5 ?_
  refine s_val rfl (v_fap0 lk5) pt6 ?_
  refine s_val rfl (v_fap0 lk6) pt7 ?_
  refine s_val rfl (v_loadp lk7 (hx_app h1) gt3) pt8 ?_
  refine s_val rfl (v_lenL lk8) pt9 ?_
  refine s_val rfl (v_mv lk9) pt3 ?_
  refine s_nil ?_
  refine n_seq ?_
  refine w_seq ?_
  refine w_reg ?_
  refine s_val rfl (v_mv lk3) pt10 ?_
  refine s_val rfl (v_gtr lk10 lki) pt11 ?_
  refine s_nil ?_
  refine n_seq ?_
  first | refine w_cond lk11 (fun hc1 => ?_) (fun hc1 => ?_) | refine w_condB lk11 (fun hc1 => ?_) (fun hc1 => ?_)
  · skip
    have hl0 : 0 < l.length := by omega
    refine w_seq ?_
    refine w_reg ?_
    refine s_val rfl (v_mv lk0) pt12 ?_
    refine s_val rfl (v_nckp lk12) pt13 ?_
    refine s_val rfl (v_fap0 lk13) pt14 ?_
    refine s_val rfl (v_fap0 lk14) pt15 ?_
    refine s_val rfl (v_loadp lk15 (hx_app h1) gt3) pt16 ?_
    refine s_val rfl (v_mv lk3) pt17 ?_
    refine s_val rfl (v_sub lk17 lki (by omega) (by omega)) pt18 ?_
    refine s_val rfl (v_iaR (k := l.length - 1) lk16 lk18 chg_len1 (Nat.le_of_ble_eq_true rfl) (by first | rfl | omega) (by omega) (by first | rfl | omega) rfl) pt19 ?_
    refine s_val rfl (v_far lk19 dp1) pt20 ?_
    refine s_val rfl (v_loadrA lk20 AThere_tk_3 rfl) pt21 ?_
    refine s_eff rfl rfl (e_store lk2 (cvl lk21 rfl) (hga hn rfl) rfl (Nat.le_of_ble_eq_true rfl) rfl AThere_sc0_3 (hs0 hn)) ptn ?_
    refine s_nil ?_
    refine n_seq ?_
    refine w_rets ?_
    refine r_thn ?_
    refine w_ret (rs1 (rr_c gt2 (hga hn rfl) (ld1 AThere_tk0_3 rfl))) ?_
    refine rt (by first | rfl | (simp only [AV.lt, AV.ltL, Ent.lt, List.all_cons, List.all_nil, Bool.and_true, Bool.and_self, decide_true, chg_lt]; done) | (simp [AV.lt, AV.ltL, Ent.lt, chg_lt, *]; done) | (simp [AV.lt, AV.ltL, Ent.lt, chg_lt, *]; omega)) ?_
    rw [lastL_get hl0]
  · skip
    have hl0 : l = [] := List.eq_nil_of_length_eq_zero (by omega)
    refine w_skip ?_
    refine n_seq ?_
    refine w_seq ?_
    refine w_reg ?_
    refine s_val rfl (v_mv lk0) pt22 ?_
    refine s_val rfl (v_nckp lk22) pt23 ?_
    refine s_val rfl (v_fap0 lk23) pt24 ?_
    refine s_val rfl (v_fap0 lk24) pt25 ?_
    refine s_val rfl (v_loadpA lk25 (hx_app h1) AThere_tk0_3 rfl) pt26 ?_
    refine s_eff rfl rfl (e_store lk2 (cvl lk26 rfl) (hga hn rfl) rfl (Nat.le_of_ble_eq_true rfl) rfl AThere_sc0_3 (hs0 hn)) ptn ?_
    refine s_nil ?_
    refine n_seq ?_
    refine w_rets ?_
    refine w_ret (rs1 (rr_c gt2 (hga hn rfl) (ld1 AThere_tk0_3 rfl))) ?_
    refine rt (by first | rfl | (simp only [AV.lt, AV.ltL, Ent.lt, List.all_cons, List.all_nil, Bool.and_true, Bool.and_self, decide_true, chg_lt]; done) | (simp [AV.lt, AV.ltL, Ent.lt, chg_lt, *]; done) | (simp [AV.lt, AV.ltL, Ent.lt, chg_lt, *]; omega)) ?_
    subst hl0; rfl
theorem lastL_ok {a : Loc} {l : List Chg} (ha : a.2.2.size ≤ maxLen) (hl : ∀ x ∈ l, x.2.2.2.size ≤ maxLen) : (lastL a l).2.2.size ≤ maxLen := by
  induction l generalizing a with
  | nil => exact ha
  | cons c l ih => exact ih (hl c (by simp)) (fun x hx => hl x (by simp [hx]))
theorem there_a {t : Tab} {n : Int} {full : Bool} {h : AH} (hl : t.2.length ≤ 9223372036854775807) :
    ACalls Try.prog 69 [.agg [iv t.1.1, iv t.1.2.1, sv t.1.2.2, .sl t.2.length 4 full (rows chgC t.2)], iv n] h fun x h' => h' = h ∧ x = .ret (.agg [iv (thereL t n).1, iv (thereL t n).2.1, sv (thereL t n).2.2]) := by
  have haf := afterI_le t n
  refine i69 ?_
  intro N hn hlt hlA hbd
  try simp only [AV.bdL, AV.bd, and_true, true_and] at hbd
  refine w_seq ?_
  refine w_reg ?_
  refine s_eff rfl rfl (e_box (cvl lk0 rfl) rfl (hl0 hn) ha0) pt2 ?_
  refine s_eff rfl rfl (e_box (cvl lk1 rfl) rfl (hl1 hn) ha1) pt3 ?_
  refine s_eff rfl rfl (e_new (hl2 hn) ha2) pt4 ?_
  refine s_nil ?_
  refine n_seqw (ALe.icePtr (hga hn rfl) gt3 (by simp) pt3 (hs1 hn)) ?_
  refine w_seq ?_
  refine w_reg ?_
  refine s_val rfl (v_fap0 lk2) pt7 ?_
  refine s_val rfl (v_loadp lk7 (hga hn rfl) gt3) pt8 ?_
  refine s_val rfl (v_mkfn (mp1 lk3 mp0)) pt9 ?_
  refine s_callp (mp1 lk8 (mp1 lk9 mp0)) (indexF_a (p := fun c => decide (n < c.1)) (l := t.2) (fun c h => there1_a) hl) pt10 ?_
  refine s_val rfl (v_mv lk10) pt5 ?_
  refine s_nil ?_
  refine n_seq ?_
  refine w_seq ?_
  refine w_seq ?_
  refine w_reg ?_
  refine s_val rfl (v_mv lk5) pt11 ?_
  refine s_val rfl (v_lss lk11 lki) pt12 ?_
  refine s_nil ?_
  refine n_seq ?_
  first | refine w_cond lk12 (fun hc1 => ?_) (fun hc1 => ?_) | refine w_condB lk12 (fun hc1 => ?_) (fun hc1 => ?_)
  · skip
    have he : afterI t n = t.2.length := by have haf2 := haf; unfold afterI at haf2 ⊢; rcases Nat.lt_or_ge (t.2.findIdx fun c => decide (n < c.1)) t.2.length with e | e; rw [if_pos e] at hc1; omega; omega
    refine w_reg ?_
    refine s_val rfl (v_fap0 lk2) pt13 ?_
    refine s_val rfl (v_loadp lk13 (hga hn rfl) gt3) pt14 ?_
    refine s_val rfl (v_lenL lk14) pt15 ?_
    refine s_val rfl (v_mv lk15) pt5 ?_
    refine s_nil ?_
    refine n_seq ?_
    refine w_seq ?_
    refine w_drwE ?_
    refine d_val rfl (v_fap0 lk2) pt16 ?_
    refine d_val rfl (v_loadpA lk16 (hga hn rfl) AThere_tk0_3 rfl) pt17 ?_
    refine d_val rfl (v_fap0 lk2) pt18 ?_
    refine d_val rfl (v_loadp lk18 (hga hn rfl) gt3) pt19 ?_
    refine d_val rfl (v_mv lk5) pt20 ?_
    refine d_val rfl (v_hi (k := t.2.length) lk19 lk20 chg_len1 (by first | rfl | omega) (by omega) (by first | rfl | omega)) pt21 ?_
    refine d_val rfl (v_build (AThere_There_21 (cvl lk17 rfl) rfl (cvl lk21 rfl) rfl)) pt22 ?_
    refine d_val rfl (v_build (AThere_There_22 (cvl lk22 rfl) rfl)) pt23 ?_
    refine d_eff rfl rfl (hlk hn rfl) (l_box (cvl lk23 rfl) rfl) pt24 AThere_lap0 ?_
    refine d_val rfl (v_mv lk24) pt6 ?_
    refine d_nil ?_
    refine e_ent AThere_lj3_1 ?_
    refine s_nil ?_
    refine n_seq ?_
    refine w_seq ?_
    refine w_reg ?_
    refine s_val rfl (v_mv lk6) pt25 ?_
    refine s_callp (mp1 lk25 mp0) (mlast_a (l := t.2.take t.2.length) (hga hn rfl) (by rw [List.length_take]; omega)) pt26 ?_
    refine s_eff rfl rfl (e_store lk4 (cvl lk26 rfl) (hga hn rfl) rfl (Nat.le_of_ble_eq_true rfl) rfl AThere_sc0_3 (hs2 hn)) ptn ?_
    refine s_nil ?_
    refine n_seq ?_
    refine w_rets ?_
    refine w_ret (rs1 (rr_c gt4 (hga hn rfl) (ld1 AThere_tk0_3 rfl))) ?_
    refine rt (by first | rfl | (simp only [AV.lt, AV.ltL, Ent.lt, List.all_cons, List.all_nil, Bool.and_true, Bool.and_self, decide_true, chg_lt]; done) | (simp [AV.lt, AV.ltL, Ent.lt, chg_lt, *]; done) | (simp [AV.lt, AV.ltL, Ent.lt, chg_lt, *]; omega)) ?_
    rw [thereL, he]
  · skip
    have he : t.2.findIdx (fun c => decide (n < c.1)) < t.2.length := by rcases Nat.lt_or_ge (t.2.findIdx fun c => decide (n < c.1)) t.2.length with e | e; exact e; rw [if_neg (by omega)] at hc1; omega
    rw [if_pos he] at *
    refine w_skip ?_
    refine n_seq ?_
    refine w_seq ?_
    refine w_drwE ?_
    refine d_val rfl (v_fap0 lk2) pt16 ?_
    refine d_val rfl (v_loadpA lk16 (hga hn rfl) AThere_tk0_3 rfl) pt17 ?_
    refine d_val rfl (v_fap0 lk2) pt18 ?_
    refine d_val rfl (v_loadp lk18 (hga hn rfl) gt3) pt19 ?_
    refine d_val rfl (v_mv lk5) pt20 ?_
    refine d_val rfl (v_hi (k := afterI t n) lk19 lk20 chg_len1 (by first | rfl | omega) (by omega) (by first | rfl | omega)) pt21 ?_
    refine d_val rfl (v_build (AThere_There_21 (cvl lk17 rfl) rfl (cvl lk21 rfl) rfl)) pt22 ?_
    refine d_val rfl (v_build (AThere_There_22 (cvl lk22 rfl) rfl)) pt23 ?_
    refine d_eff rfl rfl (hlk hn rfl) (l_box (cvl lk23 rfl) rfl) pt24 AThere_lap0 ?_
    refine d_val rfl (v_mv lk24) pt6 ?_
    refine d_nil ?_
    refine e_ent AThere_lj3_1 ?_
    refine s_nil ?_
    refine n_seq ?_
    refine w_seq ?_
    refine w_reg ?_
    refine s_val rfl (v_mv lk6) pt25 ?_
    refine s_callp (mp1 lk25 mp0) (mlast_a (l := t.2.take (afterI t n)) (hga hn rfl) (by rw [List.length_take]; omega)) pt26 ?_
    refine s_eff rfl rfl (e_store lk4 (cvl lk26 rfl) (hga hn rfl) rfl (Nat.le_of_ble_eq_true rfl) rfl AThere_sc0_3 (hs2 hn)) ptn ?_
    refine s_nil ?_
    refine n_seq ?_
    refine w_rets ?_
    refine w_ret (rs1 (rr_c gt4 (hga hn rfl) (ld1 AThere_tk0_3 rfl))) ?_
    refine rt (by first | rfl | (simp only [AV.lt, AV.ltL, Ent.lt, List.all_cons, List.all_nil, Bool.and_true, Bool.and_self, decide_true, chg_lt]; done) | (simp [AV.lt, AV.ltL, Ent.lt, chg_lt, *]; done) | (simp [AV.lt, AV.ltL, Ent.lt, chg_lt, *]; omega)) ?_
    rfl
theorem look_a {t : Tab} {n : Int} {full : Bool} {h : AH} (ht : okT t) :
    ACalls Try.prog 49 [.agg [iv t.1.1, iv t.1.2.1, sv t.1.2.2, .sl t.2.length 4 full (rows chgC t.2)], iv n] h fun x h' => h' = h ∧ x = .ret (.tup [.agg (locC (if checkT t = 0 ∧ timeB n = true then thereL t n else (0, 0, ⟨#[]⟩))), iv (if checkT t ≠ 0 then checkT t else if timeB n = true then 0 else 3)]) := by
  refine i49 ?_
  intro N hn hlt hlA hbd
  try simp only [AV.bdL, AV.bd, and_true, true_and] at hbd
  refine w_seq ?_
  refine w_reg ?_
  refine s_eff rfl rfl (e_box (cvl lk0 rfl) rfl (hl0 hn) ha0) pt2 ?_
  refine s_eff rfl rfl (e_new (hl1 hn) ha1) pt4 ?_
  refine s_val rfl (v_mv lki) pt5 ?_
  refine s_nil ?_
  refine n_seq ?_
  refine w_seq ?_
  refine w_seq ?_
  refine w_reg ?_
  refine s_val rfl (v_loadpA lk2 (hga hn rfl) AThere_tk0_4 rfl) pt7 ?_
  refine s_callp (mp1 lk7 mp0) (check_a (l := t.2) ht.1 ht.2) pt8 ?_
  refine s_val rfl (v_mv lk8) pt6 ?_
  refine s_nil ?_
  refine n_seq ?_
  refine w_seq ?_
  refine w_reg ?_
  refine s_val rfl (v_mv lk6) pt9 ?_
  refine s_val rfl (v_neq lk9 lki) pt10 ?_
  refine s_nil ?_
  refine n_seq ?_
  first | refine w_cond lk10 (fun hc1 => ?_) (fun hc1 => ?_) | refine w_condB lk10 (fun hc1 => ?_) (fun hc1 => ?_)
  · skip
    have hv : checkT t ≠ 0 := hc1
    refine w_seq ?_
    refine w_reg ?_
    refine s_val rfl (v_build AThere_Look_9) pt11 ?_
    refine s_val rfl (v_mv lk6) pt12 ?_
    refine s_eff rfl rfl (e_store lk4 (cvl lk11 rfl) (hga hn rfl) rfl (Nat.le_of_ble_eq_true rfl) rfl AThere_sc0_3 (hs1 hn)) ptn ?_
    refine s_val rfl (v_mv lk12) pt5 ?_
    refine s_nil ?_
    refine n_seq ?_
    refine w_rets ?_
    refine r_thn ?_
    refine w_ret (rsn (rm1 (rr_c gt4 (hga hn rfl) (ld1 AThere_tk0_3 rfl)) (rm1 (rr_t gt5) rm0))) ?_
    refine rt (by first | rfl | (simp only [AV.lt, AV.ltL, Ent.lt, List.all_cons, List.all_nil, Bool.and_true, Bool.and_self, decide_true, chg_lt]; done) | (simp [AV.lt, AV.ltL, Ent.lt, chg_lt, *]; done) | (simp [AV.lt, AV.ltL, Ent.lt, chg_lt, *]; omega)) ?_
    rw [if_neg (fun e => hv e.1), if_pos hv]
  · skip
    have hv : checkT t = 0 := Decidable.of_not_not hc1
    refine w_skip ?_
    refine n_seq ?_
    refine w_seq ?_
    refine w_seq ?_
    refine w_reg ?_
    refine s_val rfl (v_mv lk1) pt13 ?_
    refine s_callp (mp1 lk13 mp0) (time_a) pt14 ?_
    refine s_val rfl (v_notB lk14) pt15 ?_
    refine s_nil ?_
    refine n_seq ?_
    refine w_condB lk15 (fun hc2 => ?_) (fun hc2 => ?_)
    · skip
      have hb : timeB n = false := by simpa using hc2
      refine w_seq ?_
      refine w_reg ?_
      refine s_val rfl (v_build AThere_Look_16) pt16 ?_
      refine s_eff rfl rfl (e_store lk4 (cvl lk16 rfl) (hga hn rfl) rfl (Nat.le_of_ble_eq_true rfl) rfl AThere_sc0_3 (hs1 hn)) ptn ?_
      refine s_val rfl (v_mv lki) pt5 ?_
      refine s_nil ?_
      refine n_seq ?_
      refine w_rets ?_
      refine r_thn ?_
      refine w_ret (rsn (rm1 (rr_c gt4 (hga hn rfl) (ld1 AThere_tk0_3 rfl)) (rm1 (rr_t gt5) rm0))) ?_
      refine rt (by first | rfl | (simp only [AV.lt, AV.ltL, Ent.lt, List.all_cons, List.all_nil, Bool.and_true, Bool.and_self, decide_true, chg_lt]; done) | (simp [AV.lt, AV.ltL, Ent.lt, chg_lt, *]; done) | (simp [AV.lt, AV.ltL, Ent.lt, chg_lt, *]; omega)) ?_
      rw [if_neg (by rw [hb]; simp), if_neg (by simpa using hv), if_neg (by rw [hb]; simp)]
    · skip
      have hb : timeB n = true := by simpa using hc2
      refine w_skip ?_
      refine n_seq ?_
      refine w_seq ?_
      refine w_reg ?_
      refine s_val rfl (v_loadpA lk2 (hga hn rfl) AThere_tk0_4 rfl) pt17 ?_
      refine s_val rfl (v_mv lk1) pt18 ?_
      refine s_callp (mp1 lk17 (mp1 lk18 mp0)) (there_a (t := t) (by have := checkT_len hv; omega)) pt19 ?_
      refine s_eff rfl rfl (e_store lk4 (cvl lk19 rfl) (hga hn rfl) rfl (Nat.le_of_ble_eq_true rfl) rfl AThere_sc0_3 (hs1 hn)) ptn ?_
      refine s_val rfl (v_mv lki) pt5 ?_
      refine s_nil ?_
      refine n_seq ?_
      refine w_rets ?_
      refine w_ret (rsn (rm1 (rr_c gt4 (hga hn rfl) (ld1 AThere_tk0_3 rfl)) (rm1 (rr_t gt5) rm0))) ?_
      refine rt (by first | rfl | (simp only [AV.lt, AV.ltL, Ent.lt, List.all_cons, List.all_nil, Bool.and_true, Bool.and_self, decide_true, chg_lt]; done) | (simp [AV.lt, AV.ltL, Ent.lt, chg_lt, *]; done) | (simp [AV.lt, AV.ltL, Ent.lt, chg_lt, *]; omega)) ?_
      rw [if_pos ⟨hv, hb⟩, if_neg (by simpa using hv), if_pos hb]
end Go.Proofs.Ytmbebimingkfeaa
