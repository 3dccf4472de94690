/-
  Contracts on plain data: datelineref.SameTable, a law's small table and tableIs. No condition. (For the laws of wire.)
-/
import Derived.Test.YtmbebimingkfeaaATabB
import Derived.Test.YtmbebimingkfeaaARd
set_option linter.unusedVariables false
set_option linter.unusedSimpArgs false
set_option maxRecDepth 100000
namespace Go.Proofs.Ytmbebimingkfeaa
open Go.Ab Civ
section
theorem ASame_tk0_3 {a0 a1 a2 : AV} {l : List AV} : ((a0 :: a1 :: a2 :: l).drop 0).take 3 = [a0, a1, a2] := rfl
theorem ASame_eq_iis {a0 b0 : Int} {a1 b1 : Int} {a2 b2 : ByteArray} : eqCells [.int, .int, .str] [iv a0, iv a1, sv a2] [iv b0, iv b1, sv b2] = some (decide (a0 = b0 ∧ a1 = b1 ∧ a2 = b2)) := by
  simp only [eqCells, eqLeaf, if_true, bytes_beq, Option.some.injEq]
  simp only [Bool.decide_and, Bool.and_true]
  try (congr 1 <;> simp)
  try rfl
theorem ASame_tk_4 {a0 a1 a2 a3 : AV} {l : List AV} : (a0 :: a1 :: a2 :: a3 :: l).take 4 = [a0, a1, a2, a3] := rfl
theorem ASame_eq_iiis {a0 b0 : Int} {a1 b1 : Int} {a2 b2 : Int} {a3 b3 : ByteArray} : eqCells [.int, .int, .int, .str] [iv a0, iv a1, iv a2, sv a3] [iv b0, iv b1, iv b2, sv b3] = some (decide (a0 = b0 ∧ a1 = b1 ∧ a2 = b2 ∧ a3 = b3)) := by
  simp only [eqCells, eqLeaf, if_true, bytes_beq, Option.some.injEq]
  simp only [Bool.decide_and, Bool.and_true]
  try (congr 1 <;> simp)
  try rfl
theorem ASame_small_2 {τ : Operand → AV} {y0 y1 : Operand} {x0_0 x1_0 : AV} (h0 : cellsV (τ y0) = some [x0_0]) (l0 : [x0_0].all leaf = true) (h1 : cellsV (τ y1) = some [x1_0]) (l1 : [x1_0].all leaf = true) : fillAV τ [(0, 1, y0), (2, 1, y1)] [(.v (.int .i64 0)), (.v (.int .i64 0)), (.v (.string ⟨#[]⟩))] = some [x0_0, (.v (.int .i64 0)), x1_0] := by
  simp only [fillAV, h0, l0, h1, l1]
  rfl
theorem ASame_small_3 {τ : Operand → AV} {y0 y1 y2 : Operand} {x0_0 x1_0 x2_0 : AV} (h0 : cellsV (τ y0) = some [x0_0]) (l0 : [x0_0].all leaf = true) (h1 : cellsV (τ y1) = some [x1_0]) (l1 : [x1_0].all leaf = true) (h2 : cellsV (τ y2) = some [x2_0]) (l2 : [x2_0].all leaf = true) : fillAV τ [(0, 1, y0), (1, 1, y1), (2, 1, y2)] [(.v (.int .i64 0)), (.v (.int .i64 0)), (.v (.string ⟨#[]⟩))] = some [x0_0, x1_0, x2_0] := by
  simp only [fillAV, h0, l0, h1, l1, h2, l2]
  rfl
theorem ASame_sc0_3 {a0 a1 a2 c0 c1 c2 : AV} {l : List AV} : setCells (a0 :: a1 :: a2 :: l) 0 [c0, c1, c2] = c0 :: c1 :: c2 :: l := rfl
theorem ASame_small_10 {τ : Operand → AV} {y0 y1 : Operand} {x0_0 x1_0 x1_1 x1_2 : AV} (h0 : cellsV (τ y0) = some [x0_0]) (l0 : [x0_0].all leaf = true) (h1 : cellsV (τ y1) = some [x1_0, x1_1, x1_2]) (l1 : [x1_0, x1_1, x1_2].all leaf = true) : fillAV τ [(0, 1, y0), (1, 3, y1)] [(.v (.int .i64 0)), (.v (.int .i64 0)), (.v (.int .i64 0)), (.v (.string ⟨#[]⟩))] = some [x0_0, x1_0, x1_1, x1_2] := by
  simp only [fillAV, h0, l0, h1, l1]
  rfl
theorem ASame_small_12 {τ : Operand → AV} {y0 y1 : Operand} {x0_0 x1_0 x1_1 x1_2 : AV} (h0 : cellsV (τ y0) = some [x0_0]) (l0 : [x0_0].all leaf = true) (h1 : cellsV (τ y1) = some [x1_0, x1_1, x1_2]) (l1 : [x1_0, x1_1, x1_2].all leaf = true) : fillAV τ [(0, 1, y0), (1, 3, y1)] [(.v (.int .i64 0)), (.v (.int .i64 0)), (.v (.int .i64 0)), (.v (.string ⟨#[]⟩))] = some [x0_0, x1_0, x1_1, x1_2] := by
  simp only [fillAV, h0, l0, h1, l1]
  rfl
theorem ASame_small_13 {τ : Operand → AV} {y0 y1 : Operand} {x0_0 x0_1 x0_2 x0_3 x1_0 x1_1 x1_2 x1_3 : AV} (h0 : cellsV (τ y0) = some [x0_0, x0_1, x0_2, x0_3]) (l0 : [x0_0, x0_1, x0_2, x0_3].all leaf = true) (h1 : cellsV (τ y1) = some [x1_0, x1_1, x1_2, x1_3]) (l1 : [x1_0, x1_1, x1_2, x1_3].all leaf = true) : fillAV τ [(0, 4, y0), (4, 4, y1)] [(.v (.int .i64 0)), (.v (.int .i64 0)), (.v (.int .i64 0)), (.v (.string ⟨#[]⟩)), (.v (.int .i64 0)), (.v (.int .i64 0)), (.v (.int .i64 0)), (.v (.string ⟨#[]⟩))] = some [x0_0, x0_1, x0_2, x0_3, x1_0, x1_1, x1_2, x1_3] := by
  simp only [fillAV, h0, l0, h1, l1]
  rfl
theorem ASame_small_14 {τ : Operand → AV} {y0 y1 : Operand} {x0_0 x0_1 x0_2 x1_0 : AV} (h0 : cellsV (τ y0) = some [x0_0, x0_1, x0_2]) (l0 : [x0_0, x0_1, x0_2].all leaf = true) (h1 : cellsV (τ y1) = some [x1_0]) (l1 : [x1_0].all leaf = true) : fillAV τ [(0, 3, y0), (3, 1, y1)] [(.v (.int .i64 0)), (.v (.int .i64 0)), (.v (.string ⟨#[]⟩)), (.sl 0 0 true [])] = some [x0_0, x0_1, x0_2, x1_0] := by
  simp only [fillAV, h0, l0, h1, l1]
  rfl
theorem ASame_sc0_4 {a0 a1 a2 a3 c0 c1 c2 c3 : AV} {l : List AV} : setCells (a0 :: a1 :: a2 :: a3 :: l) 0 [c0, c1, c2, c3] = c0 :: c1 :: c2 :: c3 :: l := rfl
theorem ASame_tk0_4 {a0 a1 a2 a3 : AV} {l : List AV} : ((a0 :: a1 :: a2 :: a3 :: l).drop 0).take 4 = [a0, a1, a2, a3] := rfl
theorem ASame_tableIs_6 {τ : Operand → AV} : fillAV τ [] [(.v (.int .i64 0)), (.v (.int .i64 0)), (.v (.string ⟨#[]⟩)), (.sl 0 0 true [])] = some [(.v (.int .i64 0)), (.v (.int .i64 0)), (.v (.string ⟨#[]⟩)), (.sl 0 0 true [])] := rfl
end
/-- datelineref.SameTable -/
def c19 : AC := (.seq (.reg [⟨(some 2), none, (.box 26 4 (.tmp 0))⟩, ⟨(some 3), none, (.box 26 4 (.tmp 1))⟩, ⟨(some 4), none, (.mv (.const (.bool false)))⟩]) (.seq (.seq (.reg [⟨(some 6), none, (.fa 0 (.tmp 2))⟩, ⟨(some 7), none, (.load true 3 (.tmp 6))⟩, ⟨(some 8), none, (.fa 0 (.tmp 3))⟩, ⟨(some 9), none, (.load true 3 (.tmp 8))⟩, ⟨(some 10), none, (.eqs true [.int, .int, .str] (.tmp 7) (.tmp 9))⟩, ⟨(some 11), none, (.mv (.tmp 10))⟩, ⟨(some 12), (some (11, false)), (.fa 3 (.tmp 2))⟩, ⟨(some 13), (some (11, false)), (.load false 1 (.tmp 12))⟩, ⟨(some 14), (some (11, false)), (.len false (.tmp 13))⟩, ⟨(some 15), (some (11, false)), (.fa 3 (.tmp 3))⟩, ⟨(some 16), (some (11, false)), (.load false 1 (.tmp 15))⟩, ⟨(some 17), (some (11, false)), (.len false (.tmp 16))⟩, ⟨(some 18), (some (11, false)), (.bin .neq (.tmp 14) (.tmp 17))⟩, ⟨(some 19), none, (.pick (.tmp 11) (.const (.bool true)) (.tmp 18))⟩]) (.cond (.tmp 19) (.seq (.reg [⟨(some 4), none, (.mv (.const (.bool false)))⟩]) .ret) .skip)) (.seq (.seq (.reg [⟨(some 5), none, (.mv (.const (.int .i64 0)))⟩]) (.block 0 (.loop (.seq (.seq (.reg [⟨(some 20), none, (.mv (.tmp 5))⟩, ⟨(some 21), none, (.fa 3 (.tmp 2))⟩, ⟨(some 22), none, (.load false 1 (.tmp 21))⟩, ⟨(some 23), none, (.len false (.tmp 22))⟩, ⟨(some 24), none, (.bin .lss (.tmp 20) (.tmp 23))⟩]) (.cond (.tmp 24) .skip (.exit 0))) (.seq (.block 1 (.seq (.drw [⟨(some 27), none, (.fa 3 (.tmp 2))⟩, ⟨(some 28), none, (.load false 1 (.tmp 27))⟩, ⟨(some 29), none, (.mv (.tmp 5))⟩, ⟨(some 30), none, (.ia 4 (.tmp 28) (.tmp 29))⟩, ⟨(some 31), none, (.load true 4 (.tmp 30))⟩, ⟨(some 32), none, (.fa 3 (.tmp 3))⟩, ⟨(some 33), none, (.load false 1 (.tmp 32))⟩, ⟨(some 34), none, (.mv (.tmp 5))⟩, ⟨(some 35), none, (.ia 4 (.tmp 33) (.tmp 34))⟩, ⟨(some 36), none, (.load true 4 (.tmp 35))⟩, ⟨(some 37), none, (.eqs true [.int, .int, .int, .str] (.tmp 31) (.tmp 36))⟩] [] []) (.cond (.tmp 37) (.seq (.reg [⟨(some 4), none, (.mv (.const (.bool false)))⟩]) .ret) .skip))) (.reg [⟨(some 25), none, (.mv (.tmp 5))⟩, ⟨(some 26), none, (.bin .add (.tmp 25) (.const (.int .i64 1)))⟩, ⟨(some 5), none, (.mv (.tmp 26))⟩])))))) (.seq (.reg [⟨(some 4), none, (.mv (.const (.bool true)))⟩]) .ret))))
theorem k19 : compF Try.prog 19 = some ⟨c19, [(.tmp 4)], 38⟩ := by kernel_rfl
theorem i19 {a0 a1 : AV} {h : AH} {R : AE → Prop} (hw : ∀ n, h.length = n → (∀ e ∈ h, e.lt n = true) → AV.ltL n [a0, a1] = true → AV.bdL [a0, a1] → aw Try.prog n c19 (retA [(.tmp 4)] fun x h' => ∃ z, h' = h ++ z ∧ x.lt n = true ∧ R x) [a0, a1, .any, .any, .any, .any, .any, .any, .any, .any, .any, .any, .any, .any, .any, .any, .any, .any, .any, .any, .any, .any, .any, .any, .any, .any, .any, .any, .any, .any, .any, .any, .any, .any, .any, .any, .any, .any] (h ++ [])) : ACalls Try.prog 19 [a0, a1] h fun x h' => h' = h ∧ R x := ACalls.into k19 rfl hw
theorem w19 {a0 a1 : AV} {h : AH} {res : AV} (hw : ∀ n, h.length = n → (∀ e ∈ h, e.lt n = true) → AV.ltL n [a0, a1] = true → AV.bdL [a0, a1] → aw Try.prog n c19 (retA [(.tmp 4)] fun x h' => ∃ z, h' = h ++ z ∧ x.lt n = true ∧ ∃ c, x = .ret c ∧ Wk c res) [a0, a1, .any, .any, .any, .any, .any, .any, .any, .any, .any, .any, .any, .any, .any, .any, .any, .any, .any, .any, .any, .any, .any, .any, .any, .any, .any, .any, .any, .any, .any, .any, .any, .any, .any, .any, .any, .any] (h ++ [])) : ACalls Try.prog 19 [a0, a1] h fun x h' => h' = h ∧ x = .ret res := ACalls.weak (ACalls.into k19 rfl hw)
theorem n19 {a0 a1 : AV} {h : AH} {R : AE → AH → Prop} (hw : ∀ n, h.length = n → (∀ e ∈ h, e.lt n = true) → AV.ltL n [a0, a1] = true → AV.bdL [a0, a1] → aw Try.prog n c19 (retA [(.tmp 4)] R) [a0, a1, .any, .any, .any, .any, .any, .any, .any, .any, .any, .any, .any, .any, .any, .any, .any, .any, .any, .any, .any, .any, .any, .any, .any, .any, .any, .any, .any, .any, .any, .any, .any, .any, .any, .any, .any, .any] (h ++ [])) : ACalls Try.prog 19 [a0, a1] h R := ACalls.intoN k19 rfl hw
theorem j19 {a0 a1 : AV} {h : AH} {R : AE → AH → Prop} (hw : ∀ n, h.length = n → (∀ e ∈ h, e.lt n = true) → AV.ltL n [a0, a1] = true → AV.bdL [a0, a1] → aw Try.prog n c19 (retA [(.tmp 4)] fun x h' => ∃ y z, h' = y ++ z ∧ y.length = n ∧ (∀ e ∈ y, e.lt n = true) ∧ x.lt n = true ∧ R x y) [a0, a1, .any, .any, .any, .any, .any, .any, .any, .any, .any, .any, .any, .any, .any, .any, .any, .any, .any, .any, .any, .any, .any, .any, .any, .any, .any, .any, .any, .any, .any, .any, .any, .any, .any, .any, .any, .any] (h ++ [])) : ACalls Try.prog 19 [a0, a1] h R := ACalls.intoG k19 rfl hw
/-- datelinelaw.small -/
def c34 : AC := (.seq (.reg [⟨(some 0), none, (.new 26 4 [(.v (.int .i64 0)), (.v (.int .i64 0)), (.v (.string ⟨#[]⟩)), (.sl 0 0 true [])])⟩]) (.seq (.reg [⟨(some 3), none, (.build [(.v (.int .i64 0)), (.v (.int .i64 0)), (.v (.string ⟨#[]⟩))] [(0, (1, (.const (.int .i64 3600)))), (2, (1, (.const (.string ⟨#[65]⟩))))])⟩, ⟨(some 4), none, (.build [(.v (.int .i64 0)), (.v (.int .i64 0)), (.v (.string ⟨#[]⟩))] [(0, (1, (.const (.int .i64 7200)))), (1, (1, (.const (.int .i64 3600)))), (2, (1, (.const (.string ⟨#[66]⟩))))])⟩, ⟨(some 1), none, (.new 23 3 [(.v (.int .i64 0)), (.v (.int .i64 0)), (.v (.string ⟨#[]⟩))])⟩, ⟨(some 2), none, (.new 23 3 [(.v (.int .i64 0)), (.v (.int .i64 0)), (.v (.string ⟨#[]⟩))])⟩, ⟨none, none, (.store 3 (.tmp 1) (.tmp 3))⟩, ⟨none, none, (.store 3 (.tmp 2) (.tmp 4))⟩]) (.seq (.reg [⟨(some 5), none, (.load true 3 (.tmp 1))⟩, ⟨(some 6), none, (.load true 3 (.tmp 2))⟩, ⟨(some 7), none, (.build [(.v (.int .i64 0)), (.v (.int .i64 0)), (.v (.int .i64 0)), (.v (.string ⟨#[]⟩))] [(0, (1, (.const (.int .i64 100)))), (1, (3, (.tmp 6)))])⟩, ⟨(some 8), none, (.load true 3 (.tmp 1))⟩, ⟨(some 9), none, (.build [(.v (.int .i64 0)), (.v (.int .i64 0)), (.v (.int .i64 0)), (.v (.string ⟨#[]⟩))] [(0, (1, (.const (.int .i64 90000)))), (1, (3, (.tmp 8)))])⟩, ⟨(some 10), none, (.lit 46 4 2 [(.v (.int .i64 0)), (.v (.int .i64 0)), (.v (.int .i64 0)), (.v (.string ⟨#[]⟩)), (.v (.int .i64 0)), (.v (.int .i64 0)), (.v (.int .i64 0)), (.v (.string ⟨#[]⟩))] [(0, (4, (.tmp 7))), (4, (4, (.tmp 9)))])⟩, ⟨(some 11), none, (.build [(.v (.int .i64 0)), (.v (.int .i64 0)), (.v (.string ⟨#[]⟩)), (.sl 0 0 true [])] [(0, (3, (.tmp 5))), (3, (1, (.tmp 10)))])⟩, ⟨none, none, (.store 4 (.tmp 0) (.tmp 11))⟩]) .ret)))
theorem k34 : compF Try.prog 34 = some ⟨c34, [(.cell 0 true 4)], 12⟩ := by kernel_rfl
theorem i34 {h : AH} {R : AE → Prop} (hw : ∀ n, h.length = n → (∀ e ∈ h, e.lt n = true) → AV.ltL n [] = true → AV.bdL [] → aw Try.prog n c34 (retA [(.cell 0 true 4)] fun x h' => ∃ z, h' = h ++ z ∧ x.lt n = true ∧ R x) [.any, .any, .any, .any, .any, .any, .any, .any, .any, .any, .any, .any] (h ++ [])) : ACalls Try.prog 34 [] h fun x h' => h' = h ∧ R x := ACalls.into k34 rfl hw
theorem w34 {h : AH} {res : AV} (hw : ∀ n, h.length = n → (∀ e ∈ h, e.lt n = true) → AV.ltL n [] = true → AV.bdL [] → aw Try.prog n c34 (retA [(.cell 0 true 4)] fun x h' => ∃ z, h' = h ++ z ∧ x.lt n = true ∧ ∃ c, x = .ret c ∧ Wk c res) [.any, .any, .any, .any, .any, .any, .any, .any, .any, .any, .any, .any] (h ++ [])) : ACalls Try.prog 34 [] h fun x h' => h' = h ∧ x = .ret res := ACalls.weak (ACalls.into k34 rfl hw)
theorem n34 {h : AH} {R : AE → AH → Prop} (hw : ∀ n, h.length = n → (∀ e ∈ h, e.lt n = true) → AV.ltL n [] = true → AV.bdL [] → aw Try.prog n c34 (retA [(.cell 0 true 4)] R) [.any, .any, .any, .any, .any, .any, .any, .any, .any, .any, .any, .any] (h ++ [])) : ACalls Try.prog 34 [] h R := ACalls.intoN k34 rfl hw
theorem j34 {h : AH} {R : AE → AH → Prop} (hw : ∀ n, h.length = n → (∀ e ∈ h, e.lt n = true) → AV.ltL n [] = true → AV.bdL [] → aw Try.prog n c34 (retA [(.cell 0 true 4)] fun x h' => ∃ y z, h' = y ++ z ∧ y.length = n ∧ (∀ e ∈ y, e.lt n = true) ∧ x.lt n = true ∧ R x y) [.any, .any, .any, .any, .any, .any, .any, .any, .any, .any, .any, .any] (h ++ [])) : ACalls Try.prog 34 [] h R := ACalls.intoG k34 rfl hw
/-- datelinelaw.tableIs -/
def c18 : AC := (.seq (.reg [⟨(some 4), none, (.box 26 4 (.tmp 0))⟩, ⟨(some 7), none, (.box 26 4 (.tmp 3))⟩, ⟨(some 8), none, (.mv (.const (.bool false)))⟩]) (.seq (.seq (.reg [⟨(some 9), none, (.mv (.tmp 2))⟩, ⟨(some 10), none, (.bin .neq (.tmp 9) (.const (.int .i64 0)))⟩]) (.cond (.tmp 10) (.reg [⟨(some 11), none, (.build [(.v (.int .i64 0)), (.v (.int .i64 0)), (.v (.string ⟨#[]⟩)), (.sl 0 0 true [])] [])⟩, ⟨none, none, (.store 4 (.tmp 7) (.tmp 11))⟩]) .skip)) (.seq (.reg [⟨(some 12), none, (.mv (.tmp 1))⟩, ⟨(some 13), none, (.mv (.tmp 2))⟩, ⟨(some 14), none, (.bin .eql (.tmp 12) (.tmp 13))⟩, ⟨(some 15), none, (.mv (.tmp 14))⟩, ⟨(some 16), (some (15, true)), (.load true 4 (.tmp 4))⟩, ⟨(some 17), (some (15, true)), (.load true 4 (.tmp 7))⟩, ⟨(some 18), (some (15, true)), (.call (.func 19) [(.tmp 16), (.tmp 17)])⟩, ⟨(some 19), none, (.pick (.tmp 15) (.tmp 18) (.const (.bool false)))⟩, ⟨(some 8), none, (.mv (.tmp 19))⟩]) .ret)))
theorem k18 : compF Try.prog 18 = some ⟨c18, [(.tmp 8)], 20⟩ := by kernel_rfl
theorem i18 {a0 a1 a2 a3 : AV} {h : AH} {R : AE → Prop} (hw : ∀ n, h.length = n → (∀ e ∈ h, e.lt n = true) → AV.ltL n [a0, a1, a2, a3] = true → AV.bdL [a0, a1, a2, a3] → aw Try.prog n c18 (retA [(.tmp 8)] fun x h' => ∃ z, h' = h ++ z ∧ x.lt n = true ∧ R x) [a0, a1, a2, a3, .any, .any, .any, .any, .any, .any, .any, .any, .any, .any, .any, .any, .any, .any, .any, .any] (h ++ [])) : ACalls Try.prog 18 [a0, a1, a2, a3] h fun x h' => h' = h ∧ R x := ACalls.into k18 rfl hw
theorem w18 {a0 a1 a2 a3 : AV} {h : AH} {res : AV} (hw : ∀ n, h.length = n → (∀ e ∈ h, e.lt n = true) → AV.ltL n [a0, a1, a2, a3] = true → AV.bdL [a0, a1, a2, a3] → aw Try.prog n c18 (retA [(.tmp 8)] fun x h' => ∃ z, h' = h ++ z ∧ x.lt n = true ∧ ∃ c, x = .ret c ∧ Wk c res) [a0, a1, a2, a3, .any, .any, .any, .any, .any, .any, .any, .any, .any, .any, .any, .any, .any, .any, .any, .any] (h ++ [])) : ACalls Try.prog 18 [a0, a1, a2, a3] h fun x h' => h' = h ∧ x = .ret res := ACalls.weak (ACalls.into k18 rfl hw)
theorem n18 {a0 a1 a2 a3 : AV} {h : AH} {R : AE → AH → Prop} (hw : ∀ n, h.length = n → (∀ e ∈ h, e.lt n = true) → AV.ltL n [a0, a1, a2, a3] = true → AV.bdL [a0, a1, a2, a3] → aw Try.prog n c18 (retA [(.tmp 8)] R) [a0, a1, a2, a3, .any, .any, .any, .any, .any, .any, .any, .any, .any, .any, .any, .any, .any, .any, .any, .any] (h ++ [])) : ACalls Try.prog 18 [a0, a1, a2, a3] h R := ACalls.intoN k18 rfl hw
theorem j18 {a0 a1 a2 a3 : AV} {h : AH} {R : AE → AH → Prop} (hw : ∀ n, h.length = n → (∀ e ∈ h, e.lt n = true) → AV.ltL n [a0, a1, a2, a3] = true → AV.bdL [a0, a1, a2, a3] → aw Try.prog n c18 (retA [(.tmp 8)] fun x h' => ∃ y z, h' = y ++ z ∧ y.length = n ∧ (∀ e ∈ y, e.lt n = true) ∧ x.lt n = true ∧ R x y) [a0, a1, a2, a3, .any, .any, .any, .any, .any, .any, .any, .any, .any, .any, .any, .any, .any, .any, .any, .any] (h ++ [])) : ACalls Try.prog 18 [a0, a1, a2, a3] h R := ACalls.intoG k18 rfl hw
def noTab : Tab := ((0, 0, ⟨#[]⟩), [])
def okT (t : Tab) : Prop := t.1.2.2.size ≤ maxLen ∧ ∀ x ∈ t.2, x.2.2.2.size ≤ maxLen
theorem checkT_len {t : Tab} (h : checkT t = 0) : t.2.length ≤ 1000 := by
  unfold checkT at h
  split at h
  · omega
  · omega
theorem take_step {l m : List Chg} {k : Nat} (h1 : k < l.length) (h2 : k < m.length) (h : l.take k = m.take k) (he : l[k] = m[k]) : l.take (k + 1) = m.take (k + 1) := by
  rw [List.take_succ_eq_append_getElem h1, List.take_succ_eq_append_getElem h2, h, he]
theorem sameT_a {t u : Tab} {f1 f2 : Bool} {h : AH} :
    ACalls Try.prog 19 [.agg [iv t.1.1, iv t.1.2.1, sv t.1.2.2, .sl t.2.length 4 f1 (rows chgC t.2)], .agg [iv u.1.1, iv u.1.2.1, sv u.1.2.2, .sl u.2.length 4 f2 (rows chgC u.2)]] h fun x h' => h' = h ∧ x = .ret (bv (decide (t = u))) := by
  refine i19 ?_
  intro N hn hlt hlA hbd
  try simp only [AV.bdL, AV.bd, and_true, true_and] at hbd
  refine w_seq ?_
  refine w_reg ?_
  refine s_eff rfl rfl (e_box (cvl lk0 rfl) rfl (hl0 hn) ha0) pt2 ?_
  refine s_eff rfl rfl (e_box (cvl lk1 rfl) rfl (hl1 hn) ha1) pt3 ?_
  refine s_val rfl (v_mv lkb) pt4 ?_
  refine s_nil ?_
  refine n_seq ?_
  refine w_seq ?_
  refine w_seq ?_
  refine w_reg ?_
  refine s_val rfl (v_fap0 lk2) pt6 ?_
  refine s_val rfl (v_loadpA lk6 (hga hn rfl) ASame_tk0_3 rfl) pt7 ?_
  refine s_val rfl (v_fap0 lk3) pt8 ?_
  refine s_val rfl (v_loadpA lk8 (hga hn rfl) ASame_tk0_3 rfl) pt9 ?_
  refine s_val rfl (v_eqsN lk7 lk9 ASame_eq_iis) pt10 ?_
  refine s_val rfl (v_mv lk10) pt11 ?_
  first | refine s_splitP gt11 pt11 pt11 (fun hg11 => ?_) (fun hg11 => ?_) | refine s_splitB gt11 pt11 pt11 (fun hg11 => ?_) (fun hg11 => ?_)
  · skip
    refine s_no gt11 pt12 ?_
    refine s_no gt11 pt13 ?_
    refine s_no gt11 pt14 ?_
    refine s_no gt11 pt15 ?_
    refine s_no gt11 pt16 ?_
    refine s_no gt11 pt17 ?_
    refine s_no gt11 pt18 ?_
    refine s_val rfl (v_pickT lk11 lkb) pt19 ?_
    refine s_nil ?_
    refine n_seq ?_
    refine w_condT lk19 ?_
    refine w_seq ?_
    refine w_reg ?_
    refine s_val rfl (v_mv lkb) pt4 ?_
    refine s_nil ?_
    refine n_seq ?_
    refine w_rets ?_
    refine r_thn ?_
    refine w_ret (rs1 (rr_t gt4)) ?_
    refine rt (by first | rfl | (simp only [AV.lt, AV.ltL, Ent.lt, List.all_cons, List.all_nil, Bool.and_true, Bool.and_self, decide_true, chg_lt]; done) | (simp [AV.lt, AV.ltL, Ent.lt, chg_lt, *]; done) | (simp [AV.lt, AV.ltL, Ent.lt, chg_lt, *]; omega)) ?_
    refine bvx (decide_eq_false (fun e => hg11 (by rw [e]; simp))).symm
  · skip
    refine s_do gt11 ?_
    refine s_val rfl (v_fap0 lk2) pt12 ?_
    refine s_do gt11 ?_
    refine s_val rfl (v_loadp lk12 (hga hn rfl) gt3) pt13 ?_
    refine s_do gt11 ?_
    refine s_val rfl (v_lenL lk13) pt14 ?_
    refine s_do gt11 ?_
    refine s_val rfl (v_fap0 lk3) pt15 ?_
    refine s_do gt11 ?_
    refine s_val rfl (v_loadp lk15 (hga hn rfl) gt3) pt16 ?_
    refine s_do gt11 ?_
    refine s_val rfl (v_lenL lk16) pt17 ?_
    refine s_do gt11 ?_
    refine s_val rfl (v_neq lk14 lk17) pt18 ?_
    refine s_val rfl (v_pickF lk11 lk18) pt19 ?_
    refine s_nil ?_
    refine n_seq ?_
    first | refine w_cond lk19 (fun hc1 => ?_) (fun hc1 => ?_) | refine w_condB lk19 (fun hc1 => ?_) (fun hc1 => ?_)
    · skip
      refine w_seq ?_
      refine w_reg ?_
      refine s_val rfl (v_mv lkb) pt4 ?_
      refine s_nil ?_
      refine n_seq ?_
      refine w_rets ?_
      refine r_thn ?_
      refine w_ret (rs1 (rr_t gt4)) ?_
      refine rt (by first | rfl | (simp only [AV.lt, AV.ltL, Ent.lt, List.all_cons, List.all_nil, Bool.and_true, Bool.and_self, decide_true, chg_lt]; done) | (simp [AV.lt, AV.ltL, Ent.lt, chg_lt, *]; done) | (simp [AV.lt, AV.ltL, Ent.lt, chg_lt, *]; omega)) ?_
      refine bvx (decide_eq_false (fun e => hc1 (by rw [e]))).symm
    · skip
      refine w_skip ?_
      refine n_seq ?_
      refine w_seq ?_
      refine w_seq ?_
      refine w_reg ?_
      refine s_val rfl (v_mv lki) pt5 ?_
      refine s_nil ?_
      refine n_seq ?_
      refine w_block ?_
      refine w_loop (ι := Nat) (fun (k : Nat) => [(5, iv (k : Int)), (4, .any), (20, .any), (21, .any), (22, .any), (23, .any), (24, .any), (25, .any), (26, .any), (27, .any), (28, .any), (29, .any), (30, .any), (31, .any), (32, .any), (33, .any), (34, .any), (35, .any), (36, .any), (37, .any)]) (fun (k : Nat) => []) (fun (k : Nat) => k ≤ t.2.length ∧ t.2.length = u.2.length ∧ t.1 = u.1 ∧ t.2.take k = u.2.take k) (fun (k : Nat) => t.2.length - k) (0) (by exact ⟨by omega, by omega, (by obtain ⟨x1, x2, x3⟩ := Decidable.of_not_not hg11; exact Prod.ext x1 (Prod.ext x2 x3)), by simp⟩) (by try simp only [setsT, setsE, List.set_cons_zero, List.set_cons_succ]; exact ALe.same (wk1 rfl (wk1 rfl (wk1 rfl (wk1 rfl (wka (wk1 (by first | rfl | exact ivx (by omega) | (simp; done)) (wk1 rfl (wk1 rfl (wk1 rfl (wk1 rfl (wk1 rfl (wk1 rfl (wk1 rfl (wk1 rfl (wk1 rfl (wk1 rfl (wk1 rfl (wk1 rfl (wk1 rfl (wk1 rfl (wka (wka (wka (wka (wka (wka (wka (wka (wka (wka (wka (wka (wka (wka (wka (wka (wka (wka wk0)))))))))))))))))))))))))))))))))))))) rfl) ?_
      rintro k hi1
      try simp only [setsT, setsE, List.set_cons_zero, List.set_cons_succ]
      obtain ⟨hk1, hk2, hk3, hk4⟩ := hi1
      refine w_seq ?_
      refine w_seq ?_
      refine w_reg ?_
      refine s_val rfl (v_mv lk5) pt20 ?_
      refine s_val rfl (v_fap0 lk2) pt21 ?_
      refine s_val rfl (v_loadp lk21 (hga hn rfl) gt3) pt22 ?_
      refine s_val rfl (v_lenL lk22) pt23 ?_
      refine s_val rfl (v_lss lk20 lk23) pt24 ?_
      refine s_nil ?_
      refine n_seq ?_
      first | refine w_cond lk24 (fun hc2 => ?_) (fun hc2 => ?_) | refine w_condB lk24 (fun hc2 => ?_) (fun hc2 => ?_)
      · skip
        refine w_skip ?_
        refine n_seq ?_
        refine w_seq ?_
        refine w_block ?_
        refine w_seq ?_
        refine w_drwE ?_
        refine d_val rfl (v_fap0 lk2) pt27 ?_
        refine d_val rfl (v_loadp lk27 (hga hn rfl) gt3) pt28 ?_
        refine d_val rfl (v_mv lk5) pt29 ?_
        refine d_val rfl (v_iaR lk28 lk29 chg_len1 (Nat.le_of_ble_eq_true rfl) (by first | rfl | omega) (by omega) (by first | rfl | omega) rfl) pt30 ?_
        refine d_val rfl (v_loadrA lk30 ASame_tk_4 rfl) pt31 ?_
        refine d_val rfl (v_fap0 lk3) pt32 ?_
        refine d_val rfl (v_loadp lk32 (hga hn rfl) gt3) pt33 ?_
        refine d_val rfl (v_mv lk5) pt34 ?_
        refine d_val rfl (v_iaR lk33 lk34 chg_len1 (Nat.le_of_ble_eq_true rfl) (by first | rfl | omega) (by omega) (by first | rfl | omega) rfl) pt35 ?_
        refine d_val rfl (v_loadrA lk35 ASame_tk_4 rfl) pt36 ?_
        refine d_val rfl (v_eqsN lk31 lk36 ASame_eq_iiis) pt37 ?_
        refine d_nil ?_
        refine e_nil ?_
        refine s_nil ?_
        refine n_seq ?_
        first | refine w_cond lk37 (fun hc3 => ?_) (fun hc3 => ?_) | refine w_condB lk37 (fun hc3 => ?_) (fun hc3 => ?_)
        · skip
          refine w_seq ?_
          refine w_reg ?_
          refine s_val rfl (v_mv lkb) pt4 ?_
          refine s_nil ?_
          refine n_seq ?_
          refine w_rets ?_
          refine r_blk ?_
          refine r_thn ?_
          refine r_thn ?_
          refine r_blk ?_
          refine r_thn ?_
          refine w_ret (rs1 (rr_t gt4)) ?_
          refine rt (by first | rfl | (simp only [AV.lt, AV.ltL, Ent.lt, List.all_cons, List.all_nil, Bool.and_true, Bool.and_self, decide_true, chg_lt]; done) | (simp [AV.lt, AV.ltL, Ent.lt, chg_lt, *]; done) | (simp [AV.lt, AV.ltL, Ent.lt, chg_lt, *]; omega)) ?_
          refine bvx (decide_eq_false (fun e => hc3 (by subst e; simp))).symm
        · skip
          refine w_skip ?_
          refine n_blk ?_
          refine n_seq ?_
          refine w_reg ?_
          refine s_val rfl (v_mv lk5) pt25 ?_
          refine s_val rfl (v_add lk25 lki (by omega) (by omega)) pt26 ?_
          refine s_val rfl (v_mv lk26) pt5 ?_
          refine s_nil ?_
          refine n_thn ?_
          refine LoopTo.mk (k + 1) (by omega) (by (try dsimp only); exact ⟨by omega, hk2, hk3, take_step (by omega) (by omega) hk4 (chg_ext (Decidable.of_not_not hc3))⟩) (by (try dsimp only); (try simp only [setsT, setsE, List.set_cons_zero, List.set_cons_succ]); exact ALe.same (wk1 rfl (wk1 rfl (wk1 rfl (wk1 rfl (wka (wk1 (by first | rfl | exact ivx (by omega) | (simp; done)) (wk1 rfl (wk1 rfl (wk1 rfl (wk1 rfl (wk1 rfl (wk1 rfl (wk1 rfl (wk1 rfl (wk1 rfl (wk1 rfl (wk1 rfl (wk1 rfl (wk1 rfl (wk1 rfl (wka (wka (wka (wka (wka (wka (wka (wka (wka (wka (wka (wka (wka (wka (wka (wka (wka (wka wk0)))))))))))))))))))))))))))))))))))))) rfl)
      · skip
        refine w_exit ?_
        refine x_thn ?_
        refine x_thn ?_
        refine x_blk ?_
        refine n_seq ?_
        refine w_seq ?_
        refine w_reg ?_
        refine s_val rfl (v_mv lkb) pt4 ?_
        refine s_nil ?_
        refine n_seq ?_
        refine w_rets ?_
        refine w_ret (rs1 (rr_t gt4)) ?_
        refine rt (by first | rfl | (simp only [AV.lt, AV.ltL, Ent.lt, List.all_cons, List.all_nil, Bool.and_true, Bool.and_self, decide_true, chg_lt]; done) | (simp [AV.lt, AV.ltL, Ent.lt, chg_lt, *]; done) | (simp [AV.lt, AV.ltL, Ent.lt, chg_lt, *]; omega)) ?_
        refine bvx (decide_eq_true ?_).symm
        rw [List.take_of_length_le (by omega), List.take_of_length_le (by omega)] at hk4
        exact Prod.ext hk3 hk4
def smallT : Tab := ((3600, 0, ⟨#[65]⟩), [(100, (7200, 3600, ⟨#[66]⟩)), (90000, (3600, 0, ⟨#[65]⟩))])
theorem small_a {h : AH} : ACalls Try.prog 34 [] h fun x h' => h' = h ∧ x = .ret (tabA smallT) := by
  refine i34 ?_
  intro N hn hlt hlA hbd
  try simp only [AV.bdL, AV.bd, and_true, true_and] at hbd
  refine w_seq ?_
  refine w_reg ?_
  refine s_eff rfl rfl (e_new (hl0 hn) ha0) pt0 ?_
  refine s_nil ?_
  refine n_seq ?_
  refine w_seq ?_
  refine w_reg ?_
  refine s_val rfl (v_build (ASame_small_2 (cvl lki rfl) rfl (cvl lks rfl) rfl)) pt3 ?_
  refine s_val rfl (v_build (ASame_small_3 (cvl lki rfl) rfl (cvl lki rfl) rfl (cvl lks rfl) rfl)) pt4 ?_
  refine s_eff rfl rfl (e_new (hl1 hn) ha1) pt1 ?_
  refine s_eff rfl rfl (e_new (hl2 hn) ha2) pt2 ?_
  refine s_eff rfl rfl (e_store lk1 (cvl lk3 rfl) (hga hn rfl) rfl (Nat.le_of_ble_eq_true rfl) rfl ASame_sc0_3 (hs1 hn)) ptn ?_
  refine s_eff rfl rfl (e_store lk2 (cvl lk4 rfl) (hga hn rfl) rfl (Nat.le_of_ble_eq_true rfl) rfl ASame_sc0_3 (hs2 hn)) ptn ?_
  refine s_nil ?_
  refine n_seq ?_
  refine w_seq ?_
  refine w_reg ?_
  refine s_val rfl (v_loadpA lk1 (hga hn rfl) ASame_tk0_3 rfl) pt5 ?_
  refine s_val rfl (v_loadpA lk2 (hga hn rfl) ASame_tk0_3 rfl) pt6 ?_
  refine s_val rfl (v_build (ASame_small_10 (cvl lki rfl) rfl (cvl lk6 rfl) rfl)) pt7 ?_
  refine s_val rfl (v_loadpA lk1 (hga hn rfl) ASame_tk0_3 rfl) pt8 ?_
  refine s_val rfl (v_build (ASame_small_12 (cvl lki rfl) rfl (cvl lk8 rfl) rfl)) pt9 ?_
  refine s_eff rfl rfl (e_lit (ASame_small_13 (cvl lk7 rfl) rfl (cvl lk9 rfl) rfl) (hl3 hn) ha3) pt10 ?_
  refine s_val rfl (v_build (ASame_small_14 (cvl lk5 rfl) rfl (cvl lk10 rfl) rfl)) pt11 ?_
  refine s_eff rfl rfl (e_store lk0 (cvl lk11 rfl) (hga hn rfl) rfl (Nat.le_of_ble_eq_true rfl) rfl ASame_sc0_4 (hs0 hn)) ptn ?_
  refine s_nil ?_
  refine n_seqw (ALe.iceCellR (hga hn rfl) (hga hn rfl) (by omega) gt3 rfl (Nat.le_of_ble_eq_true rfl) pt3 (hs3 hn) (hs0 hn)) ?_
  refine w_rets ?_
  refine w_ret (rs1 (rr_c gt0 (hga hn rfl) (ld1 ASame_tk0_4 rfl))) ?_
  refine rt (by first | rfl | (simp only [AV.lt, AV.ltL, Ent.lt, List.all_cons, List.all_nil, Bool.and_true, Bool.and_self, decide_true, chg_lt]; done) | (simp [AV.lt, AV.ltL, Ent.lt, chg_lt, *]; done) | (simp [AV.lt, AV.ltL, Ent.lt, chg_lt, *]; omega)) ?_
  rfl
theorem okT_small : okT smallT := ⟨by decide, by decide⟩
theorem tableIs_a {t u : Tab} {e1 e2 : Int} {f1 f2 : Bool} {h : AH} :
    ACalls Try.prog 18 [.agg [iv t.1.1, iv t.1.2.1, sv t.1.2.2, .sl t.2.length 4 f1 (rows chgC t.2)], iv e1, iv e2, .agg [iv u.1.1, iv u.1.2.1, sv u.1.2.2, .sl u.2.length 4 f2 (rows chgC u.2)]] h fun x h' => h' = h ∧ x = .ret (bv (decide (e1 = e2) && decide (t = if e2 ≠ 0 then noTab else u))) := by
  refine i18 ?_
  intro N hn hlt hlA hbd
  try simp only [AV.bdL, AV.bd, and_true, true_and] at hbd
  refine w_seq ?_
  refine w_reg ?_
  refine s_eff rfl rfl (e_box (cvl lk0 rfl) rfl (hl0 hn) ha0) pt4 ?_
  refine s_eff rfl rfl (e_box (cvl lk3 rfl) rfl (hl1 hn) ha1) pt7 ?_
  refine s_val rfl (v_mv lkb) pt8 ?_
  refine s_nil ?_
  refine n_seq ?_
  refine w_seq ?_
  refine w_seq ?_
  refine w_reg ?_
  refine s_val rfl (v_mv lk2) pt9 ?_
  refine s_val rfl (v_neq lk9 lki) pt10 ?_
  refine s_nil ?_
  refine n_seq ?_
  first | refine w_cond lk10 (fun hc1 => ?_) (fun hc1 => ?_) | refine w_condB lk10 (fun hc1 => ?_) (fun hc1 => ?_)
  · skip
    refine w_reg ?_
    refine s_val rfl (v_build ASame_tableIs_6) pt11 ?_
    refine s_eff rfl rfl (e_store lk7 (cvl lk11 rfl) (hga hn rfl) rfl (Nat.le_of_ble_eq_true rfl) rfl ASame_sc0_4 (hs1 hn)) ptn ?_
    refine s_nil ?_
    refine n_seq ?_
    refine w_seq ?_
    refine w_reg ?_
    refine s_val rfl (v_mv lk1) pt12 ?_
    refine s_val rfl (v_mv lk2) pt13 ?_
    refine s_val rfl (v_eql lk12 lk13) pt14 ?_
    refine s_val rfl (v_mv lk14) pt15 ?_
    first | refine s_splitP gt15 pt15 pt15 (fun hg15 => ?_) (fun hg15 => ?_) | refine s_splitB gt15 pt15 pt15 (fun hg15 => ?_) (fun hg15 => ?_)
    · skip
      refine s_do gt15 ?_
      refine s_val rfl (v_loadpA lk4 (hga hn rfl) ASame_tk0_4 rfl) pt16 ?_
      refine s_do gt15 ?_
      refine s_val rfl (v_loadpA lk7 (hga hn rfl) ASame_tk0_4 rfl) pt17 ?_
      refine s_do gt15 ?_
      refine s_callp (mp1 lk16 (mp1 lk17 mp0)) (ACalls.wk (wkw (Wk.refl _) (wkw (Wk.agg (wk1 rfl (wk1 rfl (wk1 rfl (wkw Wk.nilF wk0))))) wk0)) <| sameT_a (t := t) (u := noTab) (f1 := f1) (f2 := false)) pt18 ?_
      refine s_val rfl (v_pickT lk15 lk18) pt19 ?_
      refine s_val rfl (v_mv lk19) pt8 ?_
      refine s_nil ?_
      refine n_seq ?_
      refine w_rets ?_
      refine w_ret (rs1 (rr_t gt8)) ?_
      refine rt (by first | rfl | (simp only [AV.lt, AV.ltL, Ent.lt, List.all_cons, List.all_nil, Bool.and_true, Bool.and_self, decide_true, chg_lt]; done) | (simp [AV.lt, AV.ltL, Ent.lt, chg_lt, *]; done) | (simp [AV.lt, AV.ltL, Ent.lt, chg_lt, *]; omega)) ?_
      refine bvx ?_; simp_all
    · skip
      refine s_no gt15 pt16 ?_
      refine s_no gt15 pt17 ?_
      refine s_no gt15 pt18 ?_
      refine s_val rfl (v_pickF lk15 lkb) pt19 ?_
      refine s_val rfl (v_mv lk19) pt8 ?_
      refine s_nil ?_
      refine n_seq ?_
      refine w_rets ?_
      refine w_ret (rs1 (rr_t gt8)) ?_
      refine rt (by first | rfl | (simp only [AV.lt, AV.ltL, Ent.lt, List.all_cons, List.all_nil, Bool.and_true, Bool.and_self, decide_true, chg_lt]; done) | (simp [AV.lt, AV.ltL, Ent.lt, chg_lt, *]; done) | (simp [AV.lt, AV.ltL, Ent.lt, chg_lt, *]; omega)) ?_
      refine bvx ?_; simp_all
  · skip
    refine w_skip ?_
    refine n_seq ?_
    refine w_seq ?_
    refine w_reg ?_
    refine s_val rfl (v_mv lk1) pt12 ?_
    refine s_val rfl (v_mv lk2) pt13 ?_
    refine s_val rfl (v_eql lk12 lk13) pt14 ?_
    refine s_val rfl (v_mv lk14) pt15 ?_
    first | refine s_splitP gt15 pt15 pt15 (fun hg15 => ?_) (fun hg15 => ?_) | refine s_splitB gt15 pt15 pt15 (fun hg15 => ?_) (fun hg15 => ?_)
    · skip
      refine s_do gt15 ?_
      refine s_val rfl (v_loadpA lk4 (hga hn rfl) ASame_tk0_4 rfl) pt16 ?_
      refine s_do gt15 ?_
      refine s_val rfl (v_loadpA lk7 (hga hn rfl) ASame_tk0_4 rfl) pt17 ?_
      refine s_do gt15 ?_
      refine s_callp (mp1 lk16 (mp1 lk17 mp0)) (sameT_a (t := t) (u := u)) pt18 ?_
      refine s_val rfl (v_pickT lk15 lk18) pt19 ?_
      refine s_val rfl (v_mv lk19) pt8 ?_
      refine s_nil ?_
      refine n_seq ?_
      refine w_rets ?_
      refine w_ret (rs1 (rr_t gt8)) ?_
      refine rt (by first | rfl | (simp only [AV.lt, AV.ltL, Ent.lt, List.all_cons, List.all_nil, Bool.and_true, Bool.and_self, decide_true, chg_lt]; done) | (simp [AV.lt, AV.ltL, Ent.lt, chg_lt, *]; done) | (simp [AV.lt, AV.ltL, Ent.lt, chg_lt, *]; omega)) ?_
      refine bvx ?_; simp_all
    · skip
      refine s_no gt15 pt16 ?_
      refine s_no gt15 pt17 ?_
      refine s_no gt15 pt18 ?_
      refine s_val rfl (v_pickF lk15 lkb) pt19 ?_
      refine s_val rfl (v_mv lk19) pt8 ?_
      refine s_nil ?_
      refine n_seq ?_
      refine w_rets ?_
      refine w_ret (rs1 (rr_t gt8)) ?_
      refine rt (by first | rfl | (simp only [AV.lt, AV.ltL, Ent.lt, List.all_cons, List.all_nil, Bool.and_true, Bool.and_self, decide_true, chg_lt]; done) | (simp [AV.lt, AV.ltL, Ent.lt, chg_lt, *]; done) | (simp [AV.lt, AV.ltL, Ent.lt, chg_lt, *]; omega)) ?_
      refine bvx ?_; simp_all
abbrev LocD : Ds := .pair .int (.pair .int .str)
abbrev ChgD : Ds := .pair .int LocD
abbrev TabD : Ds := .pair LocD (.slice ChgD)
theorem okT_of {t : El TabD} (h : okD TabD t) : okT t := ⟨h.1.2.2, fun x hx => by
  obtain ⟨i, hi, rfl⟩ := List.getElem_of_mem hx
  exact (h.2 i hi).2.2.2⟩
end Go.Proofs.Ytmbebimingkfeaa
