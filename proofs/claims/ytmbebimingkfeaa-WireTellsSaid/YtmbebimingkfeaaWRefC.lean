/-
  Contract on plain data: the reference's DecodeOf. Condition: the text is no longer than a text may be.
-/
import Derived.Test.YtmbebimingkfeaaWRefB
set_option linter.unusedVariables false
set_option linter.unusedSimpArgs false
set_option maxRecDepth 100000
namespace Go.Proofs.Ytmbebimingkfeaa
open Go.Ab Civ
section
theorem WRefC_DecodeOf_4 {τ : Operand → AV} {y0 : Operand} {x0_0 : AV} (h0 : cellsV (τ y0) = some [x0_0]) (l0 : [x0_0].all leaf = true) : fillAV τ [(0, 1, y0)] [(.v (.string ⟨#[]⟩)), (.v (.int .i64 0)), (.v (.bool false))] = some [x0_0, (.v (.int .i64 0)), (.v (.bool false))] := by
  simp only [fillAV, h0, l0]
  rfl
theorem WRefC_sc0_3 {a0 a1 a2 c0 c1 c2 : AV} {l : List AV} : setCells (a0 :: a1 :: a2 :: l) 0 [c0, c1, c2] = c0 :: c1 :: c2 :: l := rfl
theorem WRefC_DecodeOf_21 {τ : Operand → AV} {y0 : Operand} {x0_0 : AV} (h0 : cellsV (τ y0) = some [x0_0]) (l0 : [x0_0].all leaf = true) : fillAV τ [(0, 1, y0)] [(.v (.int .i64 0)), (.v (.int .i64 0)), (.v (.string ⟨#[]⟩))] = some [x0_0, (.v (.int .i64 0)), (.v (.string ⟨#[]⟩))] := by
  simp only [fillAV, h0, l0]
  rfl
theorem WRefC_sc1_1 {a0 a1 c0 : AV} {l : List AV} : setCells (a0 :: a1 :: l) 1 [c0] = a0 :: c0 :: l := rfl
theorem WRefC_sc2_1 {a0 a1 a2 c0 : AV} {l : List AV} : setCells (a0 :: a1 :: a2 :: l) 2 [c0] = a0 :: a1 :: c0 :: l := rfl
theorem WRefC_tk0_3 {a0 a1 a2 : AV} {l : List AV} : ((a0 :: a1 :: a2 :: l).drop 0).take 3 = [a0, a1, a2] := rfl
theorem WRefC_DecodeOf_56 {τ : Operand → AV} {y0 : Operand} {x0_0 x0_1 x0_2 : AV} (h0 : cellsV (τ y0) = some [x0_0, x0_1, x0_2]) (l0 : [x0_0, x0_1, x0_2].all leaf = true) : fillAV τ [(0, 3, y0)] [(.v (.int .i64 0)), (.v (.int .i64 0)), (.v (.string ⟨#[]⟩))] = some [x0_0, x0_1, x0_2] := by
  simp only [fillAV, h0, l0]
  rfl
theorem WRefC_tk_3 {a0 a1 a2 : AV} {l : List AV} : (a0 :: a1 :: a2 :: l).take 3 = [a0, a1, a2] := rfl
theorem WRefC_DecodeOf_136 {τ : Operand → AV} : fillAV τ [] [(.v (.int .i64 0)), (.v (.int .i64 0)), (.v (.string ⟨#[]⟩)), (.sl 0 0 true [])] = some [(.v (.int .i64 0)), (.v (.int .i64 0)), (.v (.string ⟨#[]⟩)), (.sl 0 0 true [])] := rfl
theorem WRefC_sc0_4 {a0 a1 a2 a3 c0 c1 c2 c3 : AV} {l : List AV} : setCells (a0 :: a1 :: a2 :: a3 :: l) 0 [c0, c1, c2, c3] = c0 :: c1 :: c2 :: c3 :: l := rfl
theorem WRefC_tk0_4 {a0 a1 a2 a3 : AV} {l : List AV} : ((a0 :: a1 :: a2 :: a3 :: l).drop 0).take 4 = [a0, a1, a2, a3] := rfl
theorem WRefC_DecodeOf_115 {τ : Operand → AV} {y0 y1 : Operand} {x0_0 x1_0 x1_1 x1_2 : AV} (h0 : cellsV (τ y0) = some [x0_0]) (l0 : [x0_0].all leaf = true) (h1 : cellsV (τ y1) = some [x1_0, x1_1, x1_2]) (l1 : [x1_0, x1_1, x1_2].all leaf = true) : fillAV τ [(0, 1, y0), (1, 3, y1)] [(.v (.int .i64 0)), (.v (.int .i64 0)), (.v (.int .i64 0)), (.v (.string ⟨#[]⟩))] = some [x0_0, x1_0, x1_1, x1_2] := by
  simp only [fillAV, h0, l0, h1, l1]
  rfl
theorem WRefC_DecodeOf_116 {τ : Operand → AV} {y0 : Operand} {x0_0 x0_1 x0_2 x0_3 : AV} (h0 : cellsV (τ y0) = some [x0_0, x0_1, x0_2, x0_3]) (l0 : [x0_0, x0_1, x0_2, x0_3].all leaf = true) : fillAV τ [(0, 4, y0)] [(.v (.int .i64 0)), (.v (.int .i64 0)), (.v (.int .i64 0)), (.v (.string ⟨#[]⟩))] = some [x0_0, x0_1, x0_2, x0_3] := by
  simp only [fillAV, h0, l0]
  rfl
theorem WRefC_lap0 { e : Ent} : ([] : AH) ++ [e] = [e] := rfl
theorem WRefC_lj5_1 {e0 e1 e2 e3 e4 d0 : Ent} : ([e0, e1, e2, e3, e4] : AH) ++ [d0] = [e0, e1, e2, e3, e4, d0] := rfl
theorem WRefC_tk_4 {a0 a1 a2 a3 : AV} {l : List AV} : (a0 :: a1 :: a2 :: a3 :: l).take 4 = [a0, a1, a2, a3] := rfl
theorem WRefC_sc3_1 {a0 a1 a2 a3 c0 : AV} {l : List AV} : setCells (a0 :: a1 :: a2 :: a3 :: l) 3 [c0] = a0 :: a1 :: a2 :: c0 :: l := rfl
end
/-- datelineref.DecodeOf -/
def c24 : AC := (.seq (.reg [⟨(some 2), none, (.new 26 4 [(.v (.int .i64 0)), (.v (.int .i64 0)), (.v (.string ⟨#[]⟩)), (.sl 0 0 true [])])⟩, ⟨(some 3), none, (.mv (.const (.int .i64 0)))⟩]) (.seq (.reg [⟨(some 14), none, (.mv (.tmp 0))⟩, ⟨(some 15), none, (.build [(.v (.string ⟨#[]⟩)), (.v (.int .i64 0)), (.v (.bool false))] [(0, (1, (.tmp 14)))])⟩, ⟨(some 4), none, (.new 77 3 [(.v (.string ⟨#[]⟩)), (.v (.int .i64 0)), (.v (.bool false))])⟩, ⟨none, none, (.store 3 (.tmp 4) (.tmp 15))⟩]) (.seq (.reg [⟨(some 5), none, (.mv (.const (.slice none 0 0)))⟩]) (.seq (.reg [⟨(some 16), none, (.call (.func 48) [(.tmp 4), (.const (.int .i64 2))])⟩, ⟨(some 6), none, (.mv (.tmp 16))⟩]) (.seq (.seq (.reg [⟨(some 7), none, (.mv (.const (.int .i64 0)))⟩]) (.block 0 (.loop (.seq (.seq (.reg [⟨(some 17), none, (.mv (.tmp 7))⟩, ⟨(some 18), none, (.mv (.tmp 6))⟩, ⟨(some 19), none, (.bin .lss (.tmp 17) (.tmp 18))⟩, ⟨(some 20), none, (.mv (.tmp 19))⟩, ⟨(some 21), (some (20, true)), (.fa 2 (.tmp 4))⟩, ⟨(some 22), (some (20, true)), (.load false 1 (.tmp 21))⟩, ⟨(some 23), (some (20, true)), (.un .not (.tmp 22))⟩, ⟨(some 24), none, (.pick (.tmp 20) (.tmp 23) (.const (.bool false)))⟩]) (.cond (.tmp 24) .skip (.exit 0))) (.seq (.block 1 (.seq (.reg [⟨(some 27), none, (.call (.func 48) [(.tmp 4), (.const (.int .i64 3))])⟩, ⟨(some 28), none, (.bin .sub (.tmp 27) (.const (.int .i64 100000)))⟩, ⟨(some 29), none, (.build [(.v (.int .i64 0)), (.v (.int .i64 0)), (.v (.string ⟨#[]⟩))] [(0, (1, (.tmp 28)))])⟩, ⟨(some 8), none, (.new 23 3 [(.v (.int .i64 0)), (.v (.int .i64 0)), (.v (.string ⟨#[]⟩))])⟩, ⟨none, none, (.store 3 (.tmp 8) (.tmp 29))⟩]) (.seq (.reg [⟨(some 30), none, (.call (.func 48) [(.tmp 4), (.const (.int .i64 2))])⟩, ⟨(some 31), none, (.fa 1 (.tmp 8))⟩, ⟨none, none, (.store 1 (.tmp 31) (.tmp 30))⟩]) (.seq (.reg [⟨(some 32), none, (.call (.func 48) [(.tmp 4), (.const (.int .i64 1))])⟩, ⟨(some 9), none, (.mv (.tmp 32))⟩]) (.seq (.seq (.reg [⟨(some 33), none, (.mv (.tmp 0))⟩, ⟨(some 34), none, (.len true (.tmp 33))⟩, ⟨(some 35), none, (.fa 1 (.tmp 4))⟩, ⟨(some 36), none, (.load false 1 (.tmp 35))⟩, ⟨(some 37), none, (.bin .sub (.tmp 34) (.tmp 36))⟩, ⟨(some 38), none, (.mv (.tmp 9))⟩, ⟨(some 39), none, (.bin .lss (.tmp 37) (.tmp 38))⟩]) (.cond (.tmp 39) (.seq (.reg [⟨(some 40), none, (.fa 2 (.tmp 4))⟩, ⟨none, none, (.store 1 (.tmp 40) (.const (.bool true)))⟩]) (.exit 0)) .skip)) (.seq (.reg [⟨(some 41), none, (.mv (.tmp 0))⟩, ⟨(some 42), none, (.fa 1 (.tmp 4))⟩, ⟨(some 43), none, (.load false 1 (.tmp 42))⟩, ⟨(some 44), none, (.fa 1 (.tmp 4))⟩, ⟨(some 45), none, (.load false 1 (.tmp 44))⟩, ⟨(some 46), none, (.mv (.tmp 9))⟩, ⟨(some 47), none, (.bin .add (.tmp 45) (.tmp 46))⟩, ⟨(some 48), none, (.sls (.tmp 41) (some (.tmp 43)) (some (.tmp 47)))⟩, ⟨(some 49), none, (.fa 2 (.tmp 8))⟩, ⟨none, none, (.store 1 (.tmp 49) (.tmp 48))⟩]) (.seq (.reg [⟨(some 50), none, (.fa 1 (.tmp 4))⟩, ⟨(some 51), none, (.load false 1 (.tmp 50))⟩, ⟨(some 52), none, (.mv (.tmp 9))⟩, ⟨(some 53), none, (.bin .add (.tmp 51) (.tmp 52))⟩, ⟨(some 54), none, (.fa 1 (.tmp 4))⟩, ⟨none, none, (.store 1 (.tmp 54) (.tmp 53))⟩]) (.reg [⟨(some 55), none, (.mv (.tmp 5))⟩, ⟨(some 56), none, (.load true 3 (.tmp 8))⟩, ⟨(some 57), none, (.lit 23 3 1 [(.v (.int .i64 0)), (.v (.int .i64 0)), (.v (.string ⟨#[]⟩))] [(0, (3, (.tmp 56)))])⟩, ⟨(some 58), none, (.app 23 3 32 (.tmp 55) (.tmp 57))⟩, ⟨(some 5), none, (.mv (.tmp 58))⟩])))))))) (.reg [⟨(some 25), none, (.mv (.tmp 7))⟩, ⟨(some 26), none, (.bin .add (.tmp 25) (.const (.int .i64 1)))⟩, ⟨(some 7), none, (.mv (.tmp 26))⟩])))))) (.seq (.reg [⟨(some 10), none, (.new 26 4 [(.v (.int .i64 0)), (.v (.int .i64 0)), (.v (.string ⟨#[]⟩)), (.sl 0 0 true [])])⟩]) (.seq (.reg [⟨(some 59), none, (.call (.func 48) [(.tmp 4), (.const (.int .i64 2))])⟩, ⟨(some 6), none, (.mv (.tmp 59))⟩]) (.seq (.seq (.reg [⟨(some 60), none, (.fa 2 (.tmp 4))⟩, ⟨(some 61), none, (.load false 1 (.tmp 60))⟩, ⟨(some 62), none, (.un .not (.tmp 61))⟩, ⟨(some 63), none, (.mv (.tmp 62))⟩, ⟨(some 64), (some (63, true)), (.mv (.tmp 6))⟩, ⟨(some 65), (some (63, true)), (.mv (.tmp 5))⟩, ⟨(some 66), (some (63, true)), (.len false (.tmp 65))⟩, ⟨(some 67), (some (63, true)), (.bin .lss (.tmp 64) (.tmp 66))⟩, ⟨(some 68), none, (.pick (.tmp 63) (.tmp 67) (.const (.bool false)))⟩]) (.cond (.tmp 68) (.reg [⟨(some 69), none, (.mv (.tmp 5))⟩, ⟨(some 70), none, (.mv (.tmp 6))⟩, ⟨(some 71), none, (.ia 3 (.tmp 69) (.tmp 70))⟩, ⟨(some 72), none, (.load true 3 (.tmp 71))⟩, ⟨(some 73), none, (.fa 0 (.tmp 10))⟩, ⟨none, none, (.store 3 (.tmp 73) (.tmp 72))⟩]) (.reg [⟨(some 74), none, (.fa 2 (.tmp 4))⟩, ⟨none, none, (.store 1 (.tmp 74) (.const (.bool true)))⟩]))) (.seq (.reg [⟨(some 75), none, (.call (.func 48) [(.tmp 4), (.const (.int .i64 2))])⟩, ⟨(some 6), none, (.mv (.tmp 75))⟩]) (.seq (.seq (.reg [⟨(some 11), none, (.mv (.const (.int .i64 0)))⟩]) (.block 2 (.loop (.seq (.seq (.reg [⟨(some 76), none, (.mv (.tmp 11))⟩, ⟨(some 77), none, (.mv (.tmp 6))⟩, ⟨(some 78), none, (.bin .lss (.tmp 76) (.tmp 77))⟩, ⟨(some 79), none, (.mv (.tmp 78))⟩, ⟨(some 80), (some (79, true)), (.fa 2 (.tmp 4))⟩, ⟨(some 81), (some (79, true)), (.load false 1 (.tmp 80))⟩, ⟨(some 82), (some (79, true)), (.un .not (.tmp 81))⟩, ⟨(some 83), none, (.pick (.tmp 79) (.tmp 82) (.const (.bool false)))⟩]) (.cond (.tmp 83) .skip (.exit 2))) (.seq (.block 3 (.seq (.reg [⟨(some 86), none, (.call (.func 48) [(.tmp 4), (.const (.int .i64 5))])⟩, ⟨(some 87), none, (.bin .sub (.tmp 86) (.const (.int .i64 274877906944)))⟩, ⟨(some 12), none, (.mv (.tmp 87))⟩]) (.seq (.reg [⟨(some 88), none, (.call (.func 48) [(.tmp 4), (.const (.int .i64 2))])⟩, ⟨(some 13), none, (.mv (.tmp 88))⟩]) (.seq (.seq (.reg [⟨(some 89), none, (.fa 2 (.tmp 4))⟩, ⟨(some 90), none, (.load false 1 (.tmp 89))⟩, ⟨(some 91), none, (.mv (.tmp 90))⟩, ⟨(some 92), (some (91, false)), (.mv (.tmp 13))⟩, ⟨(some 93), (some (91, false)), (.mv (.tmp 5))⟩, ⟨(some 94), (some (91, false)), (.len false (.tmp 93))⟩, ⟨(some 95), (some (91, false)), (.bin .geq (.tmp 92) (.tmp 94))⟩, ⟨(some 96), none, (.pick (.tmp 91) (.const (.bool true)) (.tmp 95))⟩]) (.cond (.tmp 96) (.seq (.reg [⟨(some 97), none, (.fa 2 (.tmp 4))⟩, ⟨none, none, (.store 1 (.tmp 97) (.const (.bool true)))⟩]) (.exit 2)) .skip)) (.drw [⟨(some 98), none, (.fa 3 (.tmp 10))⟩, ⟨(some 99), none, (.load false 1 (.tmp 98))⟩, ⟨(some 100), none, (.mv (.tmp 12))⟩, ⟨(some 101), none, (.mv (.tmp 5))⟩, ⟨(some 102), none, (.mv (.tmp 13))⟩, ⟨(some 103), none, (.ia 3 (.tmp 101) (.tmp 102))⟩, ⟨(some 104), none, (.load true 3 (.tmp 103))⟩, ⟨(some 105), none, (.build [(.v (.int .i64 0)), (.v (.int .i64 0)), (.v (.int .i64 0)), (.v (.string ⟨#[]⟩))] [(0, (1, (.tmp 100))), (1, (3, (.tmp 104)))])⟩, ⟨(some 106), none, (.lit 46 4 1 [(.v (.int .i64 0)), (.v (.int .i64 0)), (.v (.int .i64 0)), (.v (.string ⟨#[]⟩))] [(0, (4, (.tmp 105)))])⟩] [false, false, false] [⟨(some 107), none, (.app 46 4 40 (.tmp 99) (.tmp 106))⟩, ⟨(some 108), none, (.fa 3 (.tmp 10))⟩, ⟨none, none, (.store 1 (.tmp 108) (.tmp 107))⟩]))))) (.reg [⟨(some 84), none, (.mv (.tmp 11))⟩, ⟨(some 85), none, (.bin .add (.tmp 84) (.const (.int .i64 1)))⟩, ⟨(some 11), none, (.mv (.tmp 85))⟩])))))) (.seq (.seq (.reg [⟨(some 109), none, (.fa 2 (.tmp 4))⟩, ⟨(some 110), none, (.load false 1 (.tmp 109))⟩, ⟨(some 111), none, (.mv (.tmp 110))⟩, ⟨(some 112), (some (111, false)), (.load true 4 (.tmp 10))⟩, ⟨(some 113), (some (111, false)), (.call (.func 14) [(.tmp 112)])⟩, ⟨(some 114), (some (111, false)), (.bin .neq (.tmp 113) (.const (.int .i64 0)))⟩, ⟨(some 115), none, (.pick (.tmp 111) (.const (.bool true)) (.tmp 114))⟩, ⟨(some 116), none, (.mv (.tmp 115))⟩, ⟨(some 117), (some (116, false)), (.load true 4 (.tmp 10))⟩, ⟨(some 118), (some (116, false)), (.call (.func 23) [(.tmp 117)])⟩, ⟨(some 119), (some (116, false)), (.mv (.tmp 0))⟩, ⟨(some 120), (some (116, false)), (.bin .neq (.tmp 118) (.tmp 119))⟩, ⟨(some 121), none, (.pick (.tmp 116) (.const (.bool true)) (.tmp 120))⟩]) (.cond (.tmp 121) (.seq (.reg [⟨(some 122), none, (.build [(.v (.int .i64 0)), (.v (.int .i64 0)), (.v (.string ⟨#[]⟩)), (.sl 0 0 true [])] [])⟩, ⟨none, none, (.store 4 (.tmp 2) (.tmp 122))⟩, ⟨(some 3), none, (.mv (.const (.int .i64 1)))⟩]) .ret) .skip)) (.seq (.reg [⟨(some 123), none, (.load true 4 (.tmp 10))⟩, ⟨none, none, (.store 4 (.tmp 2) (.tmp 123))⟩, ⟨(some 3), none, (.mv (.const (.int .i64 0)))⟩]) .ret))))))))))))
theorem k24 : compF Try.prog 24 = some ⟨c24, [(.cell 2 true 4), (.tmp 3)], 124⟩ := by kernel_rfl
theorem i24 {a0 : AV} {h : AH} {R : AE → Prop} (hw : ∀ n, h.length = n → (∀ e ∈ h, e.lt n = true) → AV.ltL n [a0] = true → AV.bdL [a0] → aw Try.prog n c24 (retA [(.cell 2 true 4), (.tmp 3)] fun x h' => ∃ z, h' = h ++ z ∧ x.lt n = true ∧ R x) [a0, .any, .any, .any, .any, .any, .any, .any, .any, .any, .any, .any, .any, .any, .any, .any, .any, .any, .any, .any, .any, .any, .any, .any, .any, .any, .any, .any, .any, .any, .any, .any, .any, .any, .any, .any, .any, .any, .any, .any, .any, .any, .any, .any, .any, .any, .any, .any, .any, .any, .any, .any, .any, .any, .any, .any, .any, .any, .any, .any, .any, .any, .any, .any, .any, .any, .any, .any, .any, .any, .any, .any, .any, .any, .any, .any, .any, .any, .any, .any, .any, .any, .any, .any, .any, .any, .any, .any, .any, .any, .any, .any, .any, .any, .any, .any, .any, .any, .any, .any, .any, .any, .any, .any, .any, .any, .any, .any, .any, .any, .any, .any, .any, .any, .any, .any, .any, .any, .any, .any, .any, .any, .any, .any] (h ++ [])) : ACalls Try.prog 24 [a0] h fun x h' => h' = h ∧ R x := ACalls.into k24 rfl hw
theorem w24 {a0 : AV} {h : AH} {res : AV} (hw : ∀ n, h.length = n → (∀ e ∈ h, e.lt n = true) → AV.ltL n [a0] = true → AV.bdL [a0] → aw Try.prog n c24 (retA [(.cell 2 true 4), (.tmp 3)] fun x h' => ∃ z, h' = h ++ z ∧ x.lt n = true ∧ ∃ c, x = .ret c ∧ Wk c res) [a0, .any, .any, .any, .any, .any, .any, .any, .any, .any, .any, .any, .any, .any, .any, .any, .any, .any, .any, .any, .any, .any, .any, .any, .any, .any, .any, .any, .any, .any, .any, .any, .any, .any, .any, .any, .any, .any, .any, .any, .any, .any, .any, .any, .any, .any, .any, .any, .any, .any, .any, .any, .any, .any, .any, .any, .any, .any, .any, .any, .any, .any, .any, .any, .any, .any, .any, .any, .any, .any, .any, .any, .any, .any, .any, .any, .any, .any, .any, .any, .any, .any, .any, .any, .any, .any, .any, .any, .any, .any, .any, .any, .any, .any, .any, .any, .any, .any, .any, .any, .any, .any, .any, .any, .any, .any, .any, .any, .any, .any, .any, .any, .any, .any, .any, .any, .any, .any, .any, .any, .any, .any, .any, .any] (h ++ [])) : ACalls Try.prog 24 [a0] h fun x h' => h' = h ∧ x = .ret res := ACalls.weak (ACalls.into k24 rfl hw)
theorem n24 {a0 : AV} {h : AH} {R : AE → AH → Prop} (hw : ∀ n, h.length = n → (∀ e ∈ h, e.lt n = true) → AV.ltL n [a0] = true → AV.bdL [a0] → aw Try.prog n c24 (retA [(.cell 2 true 4), (.tmp 3)] R) [a0, .any, .any, .any, .any, .any, .any, .any, .any, .any, .any, .any, .any, .any, .any, .any, .any, .any, .any, .any, .any, .any, .any, .any, .any, .any, .any, .any, .any, .any, .any, .any, .any, .any, .any, .any, .any, .any, .any, .any, .any, .any, .any, .any, .any, .any, .any, .any, .any, .any, .any, .any, .any, .any, .any, .any, .any, .any, .any, .any, .any, .any, .any, .any, .any, .any, .any, .any, .any, .any, .any, .any, .any, .any, .any, .any, .any, .any, .any, .any, .any, .any, .any, .any, .any, .any, .any, .any, .any, .any, .any, .any, .any, .any, .any, .any, .any, .any, .any, .any, .any, .any, .any, .any, .any, .any, .any, .any, .any, .any, .any, .any, .any, .any, .any, .any, .any, .any, .any, .any, .any, .any, .any, .any] (h ++ [])) : ACalls Try.prog 24 [a0] h R := ACalls.intoN k24 rfl hw
theorem j24 {a0 : AV} {h : AH} {R : AE → AH → Prop} (hw : ∀ n, h.length = n → (∀ e ∈ h, e.lt n = true) → AV.ltL n [a0] = true → AV.bdL [a0] → aw Try.prog n c24 (retA [(.cell 2 true 4), (.tmp 3)] fun x h' => ∃ y z, h' = y ++ z ∧ y.length = n ∧ (∀ e ∈ y, e.lt n = true) ∧ x.lt n = true ∧ R x y) [a0, .any, .any, .any, .any, .any, .any, .any, .any, .any, .any, .any, .any, .any, .any, .any, .any, .any, .any, .any, .any, .any, .any, .any, .any, .any, .any, .any, .any, .any, .any, .any, .any, .any, .any, .any, .any, .any, .any, .any, .any, .any, .any, .any, .any, .any, .any, .any, .any, .any, .any, .any, .any, .any, .any, .any, .any, .any, .any, .any, .any, .any, .any, .any, .any, .any, .any, .any, .any, .any, .any, .any, .any, .any, .any, .any, .any, .any, .any, .any, .any, .any, .any, .any, .any, .any, .any, .any, .any, .any, .any, .any, .any, .any, .any, .any, .any, .any, .any, .any, .any, .any, .any, .any, .any, .any, .any, .any, .any, .any, .any, .any, .any, .any, .any, .any, .any, .any, .any, .any, .any, .any, .any, .any] (h ++ [])) : ACalls Try.prog 24 [a0] h R := ACalls.intoG k24 rfl hw
theorem Gd_kinds {S : List UInt8} {t : Tab} (h : Gd S t) : S.drop 0 = le 2 (kinds t).length ++ ((kinds t).flatMap encL ++ Rt t) := by
  obtain ⟨h1, h2⟩ := h
  subst h2
  simp [enc, Rt]
def C1 (S : List UInt8) (p : Nat) (b : Bool) : Int := tX S p 5 b
def Q1 (S : List UInt8) (p : Nat) (b : Bool) : Nat := tP S p 5 b
def D1 (S : List UInt8) (p : Nat) (b : Bool) : Bool := tF S p 5 b
def C2 (S : List UInt8) (p : Nat) (b : Bool) : Int := tX S (Q1 S p b) 2 (D1 S p b)
def Q2 (S : List UInt8) (p : Nat) (b : Bool) : Nat := tP S (Q1 S p b) 2 (D1 S p b)
def D2 (S : List UInt8) (p : Nat) (b : Bool) : Bool := tF S (Q1 S p b) 2 (D1 S p b)
theorem chg_good {S : List UInt8} {p : Nat} {c : Chg} {k : Nat} {r : List UInt8} (h : S.drop p = encC (c, k) ++ r) (hc : timeB c.1 = true) (hk : k ≤ 65535) : C1 S p false - 274877906944 = c.1 ∧ C2 S p false = k ∧ D2 S p false = false ∧ S.drop (Q2 S p false) = r := by
  have h1 := timeB_iff.1 hc
  have e : encC (c, k) ++ r = le 5 (c.1 + 274877906944) ++ (le 2 (k : Int) ++ r) := by simp [encC]
  rw [e] at h
  obtain ⟨a1, a2, a3, a4⟩ := t_le h (by omega) (by omega)
  obtain ⟨b1, b2, b3, b4⟩ := t_le a4 (by omega) (by omega)
  have e1 : C1 S p false = c.1 + 274877906944 := a1
  have e2 : Q1 S p false = p + 5 := a3
  have e3 : D1 S p false = false := a2
  exact ⟨by omega, by rw [C2, e2, e3]; exact b1, by rw [D2, e2, e3]; exact b2, by rw [Q2, e2, e3, b3]; exact b4⟩
theorem take_snoc {K : List Loc} {i : Nat} (h : i < K.length) : K.take (i + 1) = K.take i ++ [K[i]] := List.take_succ_eq_append_getElem h
set_option maxHeartbeats 2000000 in
theorem rdecode_a {S : List UInt8} {h : AH} (hS : S.length ≤ 9223372036854775807) : ACalls Try.prog 24 [sb S] h fun x h' => h' = h ∧ x = .ret (.tup [tabA (decV S).1, iv (decV S).2]) := by
  have hz : Wk (.agg [.v (.int .i64 0), .v (.int .i64 0), .v (.string ⟨#[]⟩), .sl 0 0 true []]) (tabA noTab) := Wk.agg (wk1 rfl (wk1 rfl (wk1 rfl (wkw Wk.nilF wk0))))
  have hno : (¬ ∃ t, Gd S t) → decV S = (noTab, 1) := fun e => decV_none (fun ⟨t, h1, h2⟩ => e ⟨t, h1, h2⟩)
  have hm0 := tX_bd (S := S) (p := 0) (n := 2) (b := false)
  have hp0 := tP_le (S := S) (p := 0) (n := 2) (b := false) (Nat.zero_le _)
  have hG0 : ∀ t, Gd S t → tX S 0 2 false = ((kinds t).length : Int) ∧ tF S 0 2 false = false ∧ S.drop (tP S 0 2 false) = (kinds t).flatMap encL ++ Rt t := fun t ht => by
    have hk := (enc_facts ht.1).2.1
    obtain ⟨a, b, c, d⟩ := t_le (Gd_kinds ht) (by omega) (by omega)
    exact ⟨a, b, by rw [c]; exact d⟩
  generalize hm : tX S 0 2 false = m at hm0 hG0
  refine w24 ?_
  intro N hn hlt hlA hbd
  try simp only [AV.bdL, AV.bd, and_true, true_and] at hbd
  refine w_seq ?_
  refine w_reg ?_
  refine s_eff rfl rfl (e_new (hl0 hn) ha0) pt2 ?_
  refine s_val rfl (v_mv lki) pt3 ?_
  refine s_nil ?_
  refine n_seq ?_
  refine w_seq ?_
  refine w_reg ?_
  refine s_val rfl (v_mv lk0) pt14 ?_
  refine s_val rfl (v_build (WRefC_DecodeOf_4 (cvl lk14 rfl) rfl)) pt15 ?_
  refine s_eff rfl rfl (e_new (hl1 hn) ha1) pt4 ?_
  refine s_eff rfl rfl (e_store lk4 (cvl lk15 rfl) (hga hn rfl) rfl (Nat.le_of_ble_eq_true rfl) rfl WRefC_sc0_3 (hs1 hn)) ptn ?_
  refine s_nil ?_
  refine n_seq ?_
  refine w_seq ?_
  refine w_reg ?_
  refine s_val rfl (v_mv lkn) pt5 ?_
  refine s_nil ?_
  refine n_seqw (ALe.own0' (st' := 3) (ty := 23) gt5 (hl2 hn) pt5 ha2) ?_
  refine w_seq ?_
  refine w_reg ?_
  refine s_calls (mp1 lk4 (mp1 lki mp0)) (rtake_a (p := 0) (b := false) (n := 2) (hga hn rfl) (Nat.zero_le _) (by omega) hS) (hs1 hn) pt16 ?_
  refine s_val rfl (v_mv lk16) pt6 ?_
  refine s_nil ?_
  refine n_seq ?_
  try rw [hm]
  refine w_seqC (ι := Nat × Bool × List Loc × Nat) (fun (x_ : Nat × Bool × List Loc × Nat) => match x_ with | ⟨p, b, K, v⟩ => [(5, .own (N + 2) v K.length), (7, .any), (8, .any), (9, .any), (17, .any), (18, .any), (19, .any), (20, .any), (21, .any), (22, .any), (23, .any), (24, .any), (25, .any), (26, .any), (27, .any), (28, .any), (29, .any), (30, .any), (31, .any), (32, .any), (33, .any), (34, .any), (35, .any), (36, .any), (37, .any), (38, .any), (39, .any), (40, .any), (41, .any), (42, .any), (43, .any), (44, .any), (45, .any), (46, .any), (47, .any), (48, .any), (49, .any), (50, .any), (51, .any), (52, .any), (53, .any), (54, .any), (55, .any), (56, .any), (57, .any), (58, .any)]) (fun (x_ : Nat × Bool × List Loc × Nat) => match x_ with | ⟨p, b, K, v⟩ => [(1, .mk 0 77 3 [sb S, iv (p : Int), bv b]), (2, .mk v 23 3 (rows locC K))]) (fun (x_ : Nat × Bool × List Loc × Nat) => match x_ with | ⟨p, b, K, v⟩ => p ≤ S.length ∧ K.length ≤ 65535 ∧ (∀ x ∈ K, x.2.2.size ≤ maxLen) ∧ ∀ t, Gd S t → b = false ∧ K = kinds t ∧ S.drop p = Rt t) ?_ ?_
  · try simp only [setsT, setsE, List.set_cons_zero, List.set_cons_succ]
    refine w_seq ?_
    refine w_reg ?_
    refine s_val rfl (v_mv lki) pt7 ?_
    refine s_nil ?_
    refine n_seq ?_
    refine w_block ?_
    refine w_loop (ι := Nat × Nat × Bool × List Loc × Nat) (fun (x_ : Nat × Nat × Bool × List Loc × Nat) => match x_ with | ⟨i, p, b, K, v⟩ => [(5, .own (N + 2) v K.length), (7, iv (i : Int)), (8, .any), (9, .any), (17, .any), (18, .any), (19, .any), (20, .any), (21, .any), (22, .any), (23, .any), (24, .any), (25, .any), (26, .any), (27, .any), (28, .any), (29, .any), (30, .any), (31, .any), (32, .any), (33, .any), (34, .any), (35, .any), (36, .any), (37, .any), (38, .any), (39, .any), (40, .any), (41, .any), (42, .any), (43, .any), (44, .any), (45, .any), (46, .any), (47, .any), (48, .any), (49, .any), (50, .any), (51, .any), (52, .any), (53, .any), (54, .any), (55, .any), (56, .any), (57, .any), (58, .any)]) (fun (x_ : Nat × Nat × Bool × List Loc × Nat) => match x_ with | ⟨i, p, b, K, v⟩ => [(1, .mk 0 77 3 [sb S, iv (p : Int), bv b]), (2, .mk v 23 3 (rows locC K))]) (fun (x_ : Nat × Nat × Bool × List Loc × Nat) => match x_ with | ⟨i, p, b, K, v⟩ => (i : Int) ≤ m ∧ p ≤ S.length ∧ K.length ≤ i ∧ (∀ x ∈ K, x.2.2.size ≤ maxLen) ∧ ∀ t, Gd S t → b = false ∧ K = (kinds t).take i ∧ S.drop p = ((kinds t).drop i).flatMap encL ++ Rt t) (fun (x_ : Nat × Nat × Bool × List Loc × Nat) => match x_ with | ⟨i, p, b, K, v⟩ => (m - (i : Int)).toNat) (⟨0, tP S 0 2 false, tF S 0 2 false, [], 0⟩) (by exact ⟨hm0.1, hp0, Nat.le_refl _, by simp, fun t ht => ⟨(hG0 t ht).2.1, by simp, by simpa using (hG0 t ht).2.2⟩⟩) (by try simp only [setsT, setsE, List.set_cons_zero, List.set_cons_succ]; exact ALe.same (wk1 rfl (wk1 rfl (wk1 rfl (wk1 rfl (wk1 rfl (wk1 (by first | rfl | exact ivx (by omega) | (simp; done)) (wk1 rfl (wk1 (by first | rfl | exact ivx (by omega) | (simp; done)) (wka (wka (wk1 rfl (wk1 rfl (wk1 rfl (wk1 rfl (wk1 rfl (wk1 rfl (wk1 rfl (wka (wka (wka (wka (wka (wka (wka (wka (wka (wka (wka (wka (wka (wka (wka (wka (wka (wka (wka (wka (wka (wka (wka (wka (wka (wka (wka (wka (wka (wka (wka (wka (wka (wka (wka (wka (wka (wka (wka (wka (wka (wka (wk1 rfl (wk1 rfl (wk1 rfl (wk1 rfl (wk1 rfl (wk1 rfl (wk1 rfl (wk1 rfl (wk1 rfl (wk1 rfl (wk1 rfl (wk1 rfl (wk1 rfl (wk1 rfl (wk1 rfl (wk1 rfl (wk1 rfl (wk1 rfl (wk1 rfl (wk1 rfl (wk1 rfl (wk1 rfl (wk1 rfl (wk1 rfl (wk1 rfl (wk1 rfl (wk1 rfl (wk1 rfl (wk1 rfl (wk1 rfl (wk1 rfl (wk1 rfl (wk1 rfl (wk1 rfl (wk1 rfl (wk1 rfl (wk1 rfl (wk1 rfl (wk1 rfl (wk1 rfl (wk1 rfl (wk1 rfl (wk1 rfl (wk1 rfl (wk1 rfl (wk1 rfl (wk1 rfl (wk1 rfl (wk1 rfl (wk1 rfl (wk1 rfl (wk1 rfl (wk1 rfl (wk1 rfl (wk1 rfl (wk1 rfl (wk1 rfl (wk1 rfl (wk1 rfl (wk1 rfl (wk1 rfl (wk1 rfl (wk1 rfl (wk1 rfl (wk1 rfl wk0)))))))))))))))))))))))))))))))))))))))))))))))))))))))))))))))))))))))))))))))))))))))))))))))))))))))))))))))))))))))))))) rfl) ?_
    rintro ⟨i, p, b, K, v⟩ hi1
    try simp only [setsT, setsE, List.set_cons_zero, List.set_cons_succ]
    obtain ⟨hi1, hi2, hi3, hi4, hi5⟩ := hi1
    have hKl : K.length ≤ 65535 := by omega
    refine w_seq ?_
    refine w_seq ?_
    refine w_reg ?_
    refine s_val rfl (v_mv lk7) pt17 ?_
    refine s_val rfl (v_mv lk6) pt18 ?_
    refine s_val rfl (v_lss lk17 lk18) pt19 ?_
    refine s_val rfl (v_mv lk19) pt20 ?_
    first | refine s_splitP gt20 pt20 pt20 (fun hg20 => ?_) (fun hg20 => ?_) | refine s_splitB gt20 pt20 pt20 (fun hg20 => ?_) (fun hg20 => ?_)
    · skip
      refine s_do gt20 ?_
      refine s_val rfl (v_fap0 lk4) pt21 ?_
      refine s_do gt20 ?_
      refine s_val rfl (v_loadp lk21 (hga hn rfl) gt2) pt22 ?_
      refine s_do gt20 ?_
      refine s_val rfl (v_notB lk22) pt23 ?_
      refine s_val rfl (v_pickT lk20 lk23) pt24 ?_
      refine s_nil ?_
      refine n_seq ?_
      refine w_condB lk24 (fun hc1 => ?_) (fun hc1 => ?_)
      · skip
        have hib : b = false := by simpa using hc1
        have h1 : P1n S p b ≤ S.length := tP_le hi2
        have h2 : P2n S p b ≤ S.length := tP_le h1
        have h3 : P3n S p b ≤ S.length := tP_le h2
        have x1 : 0 ≤ A1 S p b ∧ A1 S p b < 256 ^ 3 := tX_bd
        have x2 : 0 ≤ A2 S p b ∧ A2 S p b < 256 ^ 2 := tX_bd
        have x3 : 0 ≤ A3 S p b ∧ A3 S p b < 256 ^ 1 := tX_bd
        refine w_skip ?_
        refine n_seq ?_
        refine w_seq ?_
        refine w_block ?_
        refine w_seq ?_
        refine w_reg ?_
        refine s_calls (mp1 lk4 (mp1 lki mp0)) (rtake_a (p := p) (b := b) (n := 3) (hga hn rfl) hi2 (by omega) hS) (hs1 hn) pt27 ?_
        refine s_val rfl (v_sub (a := A1 S p b) lk27 lki (by omega) (by omega)) pt28 ?_
        refine s_val rfl (v_build (WRefC_DecodeOf_21 (cvl lk28 rfl) rfl)) pt29 ?_
        refine s_eff rfl rfl (e_new (hl3 hn) ha3) pt8 ?_
        refine s_eff rfl rfl (e_store lk8 (cvl lk29 rfl) (hga hn rfl) rfl (Nat.le_of_ble_eq_true rfl) rfl WRefC_sc0_3 (hs3 hn)) ptn ?_
        refine s_nil ?_
        refine n_seq ?_
        refine w_seq ?_
        refine w_reg ?_
        refine s_calls (mp1 lk4 (mp1 lki mp0)) (rtake_a (p := P1n S p b) (b := B1 S p b) (n := 2) (hga hn rfl) h1 (by omega) hS) (hs1 hn) pt30 ?_
        refine s_val rfl (v_fap0 lk8) pt31 ?_
        refine s_eff rfl rfl (e_store lk31 (cvl lk30 rfl) (hga hn rfl) rfl (Nat.le_of_ble_eq_true rfl) rfl WRefC_sc1_1 (hs3 hn)) ptn ?_
        refine s_nil ?_
        refine n_seq ?_
        refine w_seq ?_
        refine w_reg ?_
        refine s_calls (mp1 lk4 (mp1 lki mp0)) (rtake_a (p := P2n S p b) (b := B2 S p b) (n := 1) (hga hn rfl) h2 (by omega) hS) (hs1 hn) pt32 ?_
        refine s_val rfl (v_mv lk32) pt9 ?_
        refine s_nil ?_
        refine n_seq ?_
        refine w_seq ?_
        refine w_seq ?_
        refine w_reg ?_
        refine s_val rfl (v_mv lk0) pt33 ?_
        refine s_val rfl (v_lenS lk33) pt34 ?_
        refine s_val rfl (v_fap0 lk4) pt35 ?_
        refine s_val rfl (v_loadp lk35 (hga hn rfl) gt1) pt36 ?_
        refine s_val rfl (v_sub (a := ((⟨S.toArray⟩ : ByteArray).size : Int)) (b := (P3n S p b : Int)) lk34 lk36 (by rw [sb_size]; omega) (by rw [sb_size]; omega)) pt37 ?_
        refine s_val rfl (v_mv lk9) pt38 ?_
        refine s_val rfl (v_lss (b := A3 S p b) lk37 lk38) pt39 ?_
        refine s_nil ?_
        refine n_seq ?_
        first | refine w_cond lk39 (fun hc2 => ?_) (fun hc2 => ?_) | refine w_condB lk39 (fun hc2 => ?_) (fun hc2 => ?_)
        · skip
          refine w_seq ?_
          refine w_reg ?_
          refine s_val rfl (v_fap0 lk4) pt40 ?_
          refine s_eff rfl rfl (e_store lk40 (cvl lkb rfl) (hga hn rfl) rfl (Nat.le_of_ble_eq_true rfl) rfl WRefC_sc2_1 (hs1 hn)) ptn ?_
          refine s_nil ?_
          refine n_seq ?_
          refine w_exit ?_
          refine x_thn ?_
          refine x_pas (Nat.ne_of_beq_eq_false rfl) ?_
          refine x_thn ?_
          refine x_thn ?_
          refine x_blk ?_
          refine n_thn ?_
          have hQ : ∀ t, Gd S t → true = false ∧ K = kinds t ∧ S.drop (P3n S p b) = Rt t := by
            intro t ht
            obtain ⟨g1, g2, g3⟩ := hi5 t ht
            have gm := (hG0 t ht).1
            have gi : i < (kinds t).length := by omega
            have gl := (enc_facts ht.1).1 _ (List.getElem_mem gi)
            rw [List.drop_eq_getElem_cons gi, List.flatMap_cons, List.append_assoc] at g3
            obtain ⟨y1, y2, y3, y4⟩ := loc_good g3 gl
            subst g1
            exact absurd hc2 y4
          exact ⟨⟨P3n S p b, true, K, v⟩, (by exact ⟨h3, hKl, hi4, hQ⟩), (by (try dsimp only); (try simp only [setsT, setsE, List.set_cons_zero, List.set_cons_succ]); exact ALe.back (wk1 rfl (wk1 rfl (wk1 rfl (wk1 rfl (wk1 rfl (wk1 (by first | rfl | exact ivx (by omega) | (simp; done)) (wk1 rfl (wka (wka (wka (wk1 rfl (wk1 rfl (wk1 rfl (wk1 rfl (wk1 rfl (wk1 rfl (wk1 rfl (wka (wka (wka (wka (wka (wka (wka (wka (wka (wka (wka (wka (wka (wka (wka (wka (wka (wka (wka (wka (wka (wka (wka (wka (wka (wka (wka (wka (wka (wka (wka (wka (wka (wka (wka (wka (wka (wka (wka (wka (wka (wka (wk1 rfl (wk1 rfl (wk1 rfl (wk1 rfl (wk1 rfl (wk1 rfl (wk1 rfl (wk1 rfl (wk1 rfl (wk1 rfl (wk1 rfl (wk1 rfl (wk1 rfl (wk1 rfl (wk1 rfl (wk1 rfl (wk1 rfl (wk1 rfl (wk1 rfl (wk1 rfl (wk1 rfl (wk1 rfl (wk1 rfl (wk1 rfl (wk1 rfl (wk1 rfl (wk1 rfl (wk1 rfl (wk1 rfl (wk1 rfl (wk1 rfl (wk1 rfl (wk1 rfl (wk1 rfl (wk1 rfl (wk1 rfl (wk1 rfl (wk1 rfl (wk1 rfl (wk1 rfl (wk1 rfl (wk1 rfl (wk1 rfl (wk1 rfl (wk1 rfl (wk1 rfl (wk1 rfl (wk1 rfl (wk1 rfl (wk1 rfl (wk1 rfl (wk1 rfl (wk1 rfl (wk1 rfl (wk1 rfl (wk1 rfl (wk1 rfl (wk1 rfl (wk1 rfl (wk1 rfl (wk1 rfl (wk1 rfl (wk1 rfl (wk1 rfl (wk1 rfl wk0)))))))))))))))))))))))))))))))))))))))))))))))))))))))))))))))))))))))))))))))))))))))))))))))))))))))))))))))))))))))))))) (by rfl) (k := N + 3) (by simp only [List.length_cons, List.length_nil, hn]) (by omega) (by first | rfl | (simp only [AV.lt, AV.ltL, Ent.lt, List.all_cons, List.all_nil, Bool.and_true, Bool.and_self, decide_true, chg_lt, u8_lt, loc_lt, in_lt, ltL_app]; done) | (simp [AV.lt, AV.ltL, Ent.lt, chg_lt, u8_lt, loc_lt, in_lt, ltL_app, *]; done) | (simp [AV.lt, AV.ltL, Ent.lt, chg_lt, u8_lt, loc_lt, in_lt, ltL_app, *]; omega)) (ltw (by omega) hlt) (by first | rfl | (simp only [AV.lt, AV.ltL, Ent.lt, List.all_cons, List.all_nil, Bool.and_true, Bool.and_self, decide_true, chg_lt, u8_lt, loc_lt, in_lt, ltL_app]; done) | (simp [AV.lt, AV.ltL, Ent.lt, chg_lt, u8_lt, loc_lt, in_lt, ltL_app, *]; done) | (simp [AV.lt, AV.ltL, Ent.lt, chg_lt, u8_lt, loc_lt, in_lt, ltL_app, *]; omega)))⟩
        · skip
          have hlP : lP S p b ≤ S.length := by rw [sb_size] at hc2; unfold lP; omega
          have hlv : ((lP S p b : Nat) : Int) = (P3n S p b : Int) + A3 S p b := by unfold lP; omega
          refine w_skip ?_
          refine n_seq ?_
          refine w_seq ?_
          refine w_reg ?_
          refine s_val rfl (v_mv lk0) pt41 ?_
          refine s_val rfl (v_fap0 lk4) pt42 ?_
          refine s_val rfl (v_loadp lk42 (hga hn rfl) gt1) pt43 ?_
          refine s_val rfl (v_fap0 lk4) pt44 ?_
          refine s_val rfl (v_loadp lk44 (hga hn rfl) gt1) pt45 ?_
          refine s_val rfl (v_mv lk9) pt46 ?_
          refine s_val rfl (v_add (a := (P3n S p b : Int)) (b := A3 S p b) lk45 lk46 (by omega) (by rw [sb_size] at hc2; omega)) pt47 ?_
          refine s_val rfl (v_slsS (a := P3n S p b) (b := lP S p b) lk41 (oi lk43) (oi lk47) rfl (by unfold lP; omega) (by unfold lP; omega) (by rw [sb_size] at hc2; unfold lP; omega)) pt48 ?_
          refine s_val rfl (v_fap0 lk8) pt49 ?_
          refine s_eff rfl rfl (e_store lk49 (cvl lk48 rfl) (hga hn rfl) rfl (Nat.le_of_ble_eq_true rfl) rfl WRefC_sc2_1 (hs3 hn)) ptn ?_
          refine s_nil ?_
          refine n_seq ?_
          refine w_seq ?_
          refine w_reg ?_
          refine s_val rfl (v_fap0 lk4) pt50 ?_
          refine s_val rfl (v_loadp lk50 (hga hn rfl) gt1) pt51 ?_
          refine s_val rfl (v_mv lk9) pt52 ?_
          refine s_val rfl (v_add (a := (P3n S p b : Int)) (b := A3 S p b) lk51 lk52 (by omega) (by rw [sb_size] at hc2; omega)) pt53 ?_
          refine s_val rfl (v_fap0 lk4) pt54 ?_
          refine s_eff rfl rfl (e_store lk54 (cvl lk53 rfl) (hga hn rfl) rfl (Nat.le_of_ble_eq_true rfl) rfl WRefC_sc1_1 (hs1 hn)) ptn ?_
          refine s_nil ?_
          refine n_seq ?_
          refine w_reg ?_
          refine s_val rfl (v_mv lk5) pt55 ?_
          refine s_val rfl (v_loadpA lk8 (hga hn rfl) WRefC_tk0_3 rfl) pt56 ?_
          refine s_eff rfl rfl (e_lit (WRefC_DecodeOf_56 (cvl lk56 rfl) rfl) (hl4 hn) ha4) pt57 ?_
          refine s_eff rfl rfl (e_app (sc_own lk57 (hga hn rfl) rfl WRefC_tk_3 (Nat.le_of_ble_eq_true rfl)) lk55 (hga hn rfl) (loc_len _) (by omega) rfl (hs2 hn)) pt58 ?_
          refine s_val rfl (v_mv lk58) pt5 ?_
          refine s_nil ?_
          refine n_blk ?_
          refine n_seq ?_
          refine w_reg ?_
          refine s_val rfl (v_mv lk7) pt25 ?_
          refine s_val rfl (v_add lk25 lki (by omega) (by omega)) pt26 ?_
          refine s_val rfl (v_mv lk26) pt7 ?_
          refine s_nil ?_
          refine n_thn ?_
          have hQ2 : ∀ x ∈ K ++ [lX S p b], x.2.2.size ≤ maxLen := by
            intro x hx
            rcases List.mem_append.1 hx with h' | h'
            · exact hi4 x h'
            · simp at h'; subst h'; exact lX_ok S p b
          have hQ : ∀ t, Gd S t → B3 S p b = false ∧ K ++ [lX S p b] = (kinds t).take (i + 1) ∧ S.drop (lP S p b) = ((kinds t).drop (i + 1)).flatMap encL ++ Rt t := by
            intro t ht
            obtain ⟨g1, g2, g3⟩ := hi5 t ht
            have gm := (hG0 t ht).1
            have gi : i < (kinds t).length := by omega
            have gl := (enc_facts ht.1).1 _ (List.getElem_mem gi)
            rw [List.drop_eq_getElem_cons gi, List.flatMap_cons, List.append_assoc] at g3
            obtain ⟨y1, y2, y3, y4⟩ := loc_good g3 gl
            subst g1
            exact ⟨y2, by rw [y1, g2, take_snoc gi], y3⟩
          refine LoopTo.mk (⟨i + 1, lP S p b, B3 S p b, K ++ [lX S p b], v + 1⟩) (by omega) (by (try dsimp only); exact ⟨by omega, hlP, by simp; omega, hQ2, hQ⟩) (by (try dsimp only); (try simp only [setsT, setsE, List.set_cons_zero, List.set_cons_succ]); exact ALe.back (wk1 rfl (wk1 rfl (wk1 rfl (wk1 rfl (wk1 rfl (wk1 (by first | rfl | exact ivx (by omega) | (simp; done)) (wk1 rfl (wk1 (by first | rfl | exact ivx (by omega) | (simp; done)) (wka (wka (wk1 rfl (wk1 rfl (wk1 rfl (wk1 rfl (wk1 rfl (wk1 rfl (wk1 rfl (wka (wka (wka (wka (wka (wka (wka (wka (wka (wka (wka (wka (wka (wka (wka (wka (wka (wka (wka (wka (wka (wka (wka (wka (wka (wka (wka (wka (wka (wka (wka (wka (wka (wka (wka (wka (wka (wka (wka (wka (wka (wka (wk1 rfl (wk1 rfl (wk1 rfl (wk1 rfl (wk1 rfl (wk1 rfl (wk1 rfl (wk1 rfl (wk1 rfl (wk1 rfl (wk1 rfl (wk1 rfl (wk1 rfl (wk1 rfl (wk1 rfl (wk1 rfl (wk1 rfl (wk1 rfl (wk1 rfl (wk1 rfl (wk1 rfl (wk1 rfl (wk1 rfl (wk1 rfl (wk1 rfl (wk1 rfl (wk1 rfl (wk1 rfl (wk1 rfl (wk1 rfl (wk1 rfl (wk1 rfl (wk1 rfl (wk1 rfl (wk1 rfl (wk1 rfl (wk1 rfl (wk1 rfl (wk1 rfl (wk1 rfl (wk1 rfl (wk1 rfl (wk1 rfl (wk1 rfl (wk1 rfl (wk1 rfl (wk1 rfl (wk1 rfl (wk1 rfl (wk1 rfl (wk1 rfl (wk1 rfl (wk1 rfl (wk1 rfl (wk1 rfl (wk1 rfl (wk1 rfl (wk1 rfl (wk1 rfl (wk1 rfl (wk1 rfl (wk1 rfl (wk1 rfl (wk1 rfl (wk1 rfl wk0)))))))))))))))))))))))))))))))))))))))))))))))))))))))))))))))))))))))))))))))))))))))))))))))))))))))))))))))))))))))))))) (by simp only [hlv, rows_app, rows_one]; rfl) (k := N + 3) (by simp only [List.length_cons, List.length_nil, hn]) (by omega) (by first | rfl | (simp only [AV.lt, AV.ltL, Ent.lt, List.all_cons, List.all_nil, Bool.and_true, Bool.and_self, decide_true, chg_lt, u8_lt, loc_lt, in_lt, ltL_app]; done) | (simp [AV.lt, AV.ltL, Ent.lt, chg_lt, u8_lt, loc_lt, in_lt, ltL_app, *]; done) | (simp [AV.lt, AV.ltL, Ent.lt, chg_lt, u8_lt, loc_lt, in_lt, ltL_app, *]; omega)) (ltw (by omega) hlt) (by first | rfl | (simp only [AV.lt, AV.ltL, Ent.lt, List.all_cons, List.all_nil, Bool.and_true, Bool.and_self, decide_true, chg_lt, u8_lt, loc_lt, in_lt, ltL_app]; done) | (simp [AV.lt, AV.ltL, Ent.lt, chg_lt, u8_lt, loc_lt, in_lt, ltL_app, *]; done) | (simp [AV.lt, AV.ltL, Ent.lt, chg_lt, u8_lt, loc_lt, in_lt, ltL_app, *]; omega)))
      · skip
        refine w_exit ?_
        refine x_thn ?_
        refine x_thn ?_
        refine x_blk ?_
        refine n_thn ?_
        have hQ : ∀ t, Gd S t → b = false ∧ K = kinds t ∧ S.drop p = Rt t := fun t ht => absurd (hi5 t ht).1 (by simpa using hc1)
        exact ⟨⟨p, b, K, v⟩, (by exact ⟨hi2, hKl, hi4, hQ⟩), (by (try dsimp only); (try simp only [setsT, setsE, List.set_cons_zero, List.set_cons_succ]); exact ALe.same (wk1 rfl (wk1 rfl (wk1 rfl (wk1 rfl (wk1 rfl (wk1 (by first | rfl | exact ivx (by omega) | (simp; done)) (wk1 rfl (wka (wka (wka (wk1 rfl (wk1 rfl (wk1 rfl (wk1 rfl (wk1 rfl (wk1 rfl (wk1 rfl (wka (wka (wka (wka (wka (wka (wka (wka (wka (wka (wka (wka (wka (wka (wka (wka (wka (wka (wka (wka (wka (wka (wka (wka (wka (wka (wka (wka (wka (wka (wka (wka (wka (wka (wka (wka (wka (wka (wka (wka (wka (wka (wk1 rfl (wk1 rfl (wk1 rfl (wk1 rfl (wk1 rfl (wk1 rfl (wk1 rfl (wk1 rfl (wk1 rfl (wk1 rfl (wk1 rfl (wk1 rfl (wk1 rfl (wk1 rfl (wk1 rfl (wk1 rfl (wk1 rfl (wk1 rfl (wk1 rfl (wk1 rfl (wk1 rfl (wk1 rfl (wk1 rfl (wk1 rfl (wk1 rfl (wk1 rfl (wk1 rfl (wk1 rfl (wk1 rfl (wk1 rfl (wk1 rfl (wk1 rfl (wk1 rfl (wk1 rfl (wk1 rfl (wk1 rfl (wk1 rfl (wk1 rfl (wk1 rfl (wk1 rfl (wk1 rfl (wk1 rfl (wk1 rfl (wk1 rfl (wk1 rfl (wk1 rfl (wk1 rfl (wk1 rfl (wk1 rfl (wk1 rfl (wk1 rfl (wk1 rfl (wk1 rfl (wk1 rfl (wk1 rfl (wk1 rfl (wk1 rfl (wk1 rfl (wk1 rfl (wk1 rfl (wk1 rfl (wk1 rfl (wk1 rfl (wk1 rfl (wk1 rfl wk0)))))))))))))))))))))))))))))))))))))))))))))))))))))))))))))))))))))))))))))))))))))))))))))))))))))))))))))))))))))))))))) rfl)⟩
    · skip
      refine s_no gt20 pt21 ?_
      refine s_no gt20 pt22 ?_
      refine s_no gt20 pt23 ?_
      refine s_val rfl (v_pickF lk20 lkb) pt24 ?_
      refine s_nil ?_
      refine n_seq ?_
      refine w_condF lk24 ?_
      refine w_exit ?_
      refine x_thn ?_
      refine x_thn ?_
      refine x_blk ?_
      refine n_thn ?_
      have hQ : ∀ t, Gd S t → b = false ∧ K = kinds t ∧ S.drop p = Rt t := by
        intro t ht
        obtain ⟨g1, g2, g3⟩ := hi5 t ht
        have gm := (hG0 t ht).1
        rw [show (kinds t).take i = kinds t from List.take_of_length_le (by omega)] at g2
        rw [show (kinds t).drop i = [] from List.drop_eq_nil_of_le (by omega)] at g3
        exact ⟨g1, g2, by simpa using g3⟩
      exact ⟨⟨p, b, K, v⟩, (by exact ⟨hi2, hKl, hi4, hQ⟩), (by (try dsimp only); (try simp only [setsT, setsE, List.set_cons_zero, List.set_cons_succ]); exact ALe.same (wk1 rfl (wk1 rfl (wk1 rfl (wk1 rfl (wk1 rfl (wk1 (by first | rfl | exact ivx (by omega) | (simp; done)) (wk1 rfl (wka (wka (wka (wk1 rfl (wk1 rfl (wk1 rfl (wk1 rfl (wk1 rfl (wk1 rfl (wk1 rfl (wka (wka (wka (wka (wka (wka (wka (wka (wka (wka (wka (wka (wka (wka (wka (wka (wka (wka (wka (wka (wka (wka (wka (wka (wka (wka (wka (wka (wka (wka (wka (wka (wka (wka (wka (wka (wka (wka (wka (wka (wka (wka (wk1 rfl (wk1 rfl (wk1 rfl (wk1 rfl (wk1 rfl (wk1 rfl (wk1 rfl (wk1 rfl (wk1 rfl (wk1 rfl (wk1 rfl (wk1 rfl (wk1 rfl (wk1 rfl (wk1 rfl (wk1 rfl (wk1 rfl (wk1 rfl (wk1 rfl (wk1 rfl (wk1 rfl (wk1 rfl (wk1 rfl (wk1 rfl (wk1 rfl (wk1 rfl (wk1 rfl (wk1 rfl (wk1 rfl (wk1 rfl (wk1 rfl (wk1 rfl (wk1 rfl (wk1 rfl (wk1 rfl (wk1 rfl (wk1 rfl (wk1 rfl (wk1 rfl (wk1 rfl (wk1 rfl (wk1 rfl (wk1 rfl (wk1 rfl (wk1 rfl (wk1 rfl (wk1 rfl (wk1 rfl (wk1 rfl (wk1 rfl (wk1 rfl (wk1 rfl (wk1 rfl (wk1 rfl (wk1 rfl (wk1 rfl (wk1 rfl (wk1 rfl (wk1 rfl (wk1 rfl (wk1 rfl (wk1 rfl (wk1 rfl (wk1 rfl (wk1 rfl wk0)))))))))))))))))))))))))))))))))))))))))))))))))))))))))))))))))))))))))))))))))))))))))))))))))))))))))))))))))))))))))))) rfl)⟩
  · rintro ⟨p, b, K, v⟩ hq17
    try simp only [setsT, setsE, List.set_cons_zero, List.set_cons_succ]
    obtain ⟨hp1, hp2, hp3, hp4⟩ := hq17
    refine w_seq ?_
    refine w_reg ?_
    refine s_eff rfl rfl (e_new (hl3 hn) ha3) pt10 ?_
    refine s_nil ?_
    refine n_seqw (ALe.own0Cell (st' := 4) (ty := 46) (hga hn rfl) gt3 (hl4 hn) pt3 (Eq.trans (congrArg (fun z => List.set z _ _) ha4) (hs3 hn))) ?_
    refine w_seq ?_
    refine w_reg ?_
    refine s_calls (mp1 lk4 (mp1 lki mp0)) (rtake_a (p := p) (b := b) (n := 2) (hga hn rfl) hp1 (by omega) hS) (hs1 hn) pt59 ?_
    refine s_val rfl (v_mv lk59) pt6 ?_
    refine s_nil ?_
    skip
    refine n_seqw (ALe.iceR (hga hn rfl) gt5 (List.take_of_length_le (by rw [loc_len]; exact Nat.le_refl _)) (by rw [loc_len]; exact Nat.le_refl _) pt5 (hs2 hn)) ?_
    have hx2 := tX_bd (S := S) (p := p) (n := 2) (b := b)
    have hq2 := tP_le (S := S) (p := p) (n := 2) (b := b) hp1
    have hR : ∀ t, Gd S t → tX S p 2 b = 0 ∧ tF S p 2 b = false ∧ S.drop (tP S p 2 b) = le 2 t.2.length ++ (t.2.zip (kindI t)).flatMap encC := by
      intro t ht
      obtain ⟨g1, g2, g3⟩ := hp4 t ht
      subst g1
      obtain ⟨a1, a2, a3, a4⟩ := t_le (n := 2) (x := 0) g3 (by omega) (by omega)
      exact ⟨a1, a2, by rw [a3]; exact a4⟩
    refine w_seqC (ι := Nat × Bool × Loc) (fun (x_ : Nat × Bool × Loc) => match x_ with | ⟨p', b', F⟩ => [(60, .any), (61, .any), (62, .any), (63, .any), (64, .any), (65, .any), (66, .any), (67, .any), (68, .any), (69, .any), (70, .any), (71, .any), (72, .any), (73, .any), (74, .any)]) (fun (x_ : Nat × Bool × Loc) => match x_ with | ⟨p', b', F⟩ => [(1, .mk 0 77 3 [sb S, iv (p' : Int), bv b']), (3, .mk 0 26 4 [iv F.1, iv F.2.1, sv F.2.2, .own (N + 4) 0 0])]) (fun (x_ : Nat × Bool × Loc) => match x_ with | ⟨p', b', F⟩ => p' ≤ S.length ∧ F.2.2.size ≤ maxLen ∧ ∀ t, Gd S t → b' = false ∧ F = t.1 ∧ S.drop p' = le 2 t.2.length ++ (t.2.zip (kindI t)).flatMap encC) ?_ ?_
    · try simp only [setsT, setsE, List.set_cons_zero, List.set_cons_succ]
      refine w_seq ?_
      refine w_reg ?_
      refine s_val rfl (v_fap0 lk4) pt60 ?_
      refine s_val rfl (v_loadp lk60 (hga hn rfl) gt2) pt61 ?_
      refine s_val rfl (v_notB lk61) pt62 ?_
      refine s_val rfl (v_mv lk62) pt63 ?_
      refine s_splitB gt63 pt63 pt63 (fun hg63 => ?_) (fun hg63 => ?_)
      · skip
        refine s_do gt63 ?_
        refine s_val rfl (v_mv lk6) pt64 ?_
        refine s_do gt63 ?_
        refine s_val rfl (v_mv lk5) pt65 ?_
        refine s_do gt63 ?_
        refine s_val rfl (v_lenL lk65) pt66 ?_
        refine s_do gt63 ?_
        refine s_val rfl (v_lss lk64 lk66) pt67 ?_
        refine s_val rfl (v_pickT lk63 lk67) pt68 ?_
        refine s_nil ?_
        refine n_seq ?_
        first | refine w_cond lk68 (fun hc3 => ?_) (fun hc3 => ?_) | refine w_condB lk68 (fun hc3 => ?_) (fun hc3 => ?_)
        · skip
          have hF : (tX S p 2 b).toNat < K.length := by omega
          have hQ : ∀ t, Gd S t → tF S p 2 b = false ∧ K[(tX S p 2 b).toNat] = t.1 ∧ S.drop (tP S p 2 b) = le 2 t.2.length ++ (t.2.zip (kindI t)).flatMap encC := by
            intro t ht
            obtain ⟨a1, a2, a3⟩ := hR t ht
            refine ⟨a2, ?_, a3⟩
            have := kinds_0 t
            rw [← (hp4 t ht).2.1] at this
            have e0 : (tX S p 2 b).toNat = 0 := by omega
            simp only [e0]
            exact (List.getElem?_eq_some_iff.1 this).2
          refine w_reg ?_
          refine s_val rfl (v_mv lk5) pt69 ?_
          refine s_val rfl (v_mv lk6) (ptS pt0) ?_
          refine s_val rfl (v_iaR (k := (tX S p 2 b).toNat) lk69 (lkS lk0) loc_len1 (Nat.le_of_ble_eq_true rfl) (by first | rfl | omega) (by omega) (by first | rfl | omega) rfl) (ptS pt1) ?_
          refine s_val rfl (v_loadrA (lkS lk1) WRefC_tk_3 rfl) (ptS pt2) ?_
          refine s_val rfl (v_fap0 lk10) (ptS pt3) ?_
          refine s_eff rfl rfl (e_store (lkS lk3) (cvl (lkS lk2) rfl) (hga hn rfl) rfl (Nat.le_of_ble_eq_true rfl) rfl WRefC_sc0_3 (hs3 hn)) ptn ?_
          refine s_nil ?_
          refine n_thn ?_
          exact ⟨⟨tP S p 2 b, tF S p 2 b, K[(tX S p 2 b).toNat]⟩, (by exact ⟨hq2, hp3 _ (List.getElem_mem hF), hQ⟩), (by (try dsimp only); (try simp only [setsT, setsE, List.set_cons_zero, List.set_cons_succ]); exact ALe.same (wk1 rfl (wk1 rfl (wk1 rfl (wk1 rfl (wk1 rfl (wk1 rfl (wk1 rfl (wk1 rfl (wk1 rfl (wk1 rfl (wk1 rfl (wk1 rfl (wk1 rfl (wk1 rfl (wk1 rfl (wk1 rfl (wk1 rfl (wk1 rfl (wk1 rfl (wk1 rfl (wk1 rfl (wk1 rfl (wk1 rfl (wk1 rfl (wk1 rfl (wk1 rfl (wk1 rfl (wk1 rfl (wk1 rfl (wk1 rfl (wk1 rfl (wk1 rfl (wk1 rfl (wk1 rfl (wk1 rfl (wk1 rfl (wk1 rfl (wk1 rfl (wk1 rfl (wk1 rfl (wk1 rfl (wk1 rfl (wk1 rfl (wk1 rfl (wk1 rfl (wk1 rfl (wk1 rfl (wk1 rfl (wk1 rfl (wk1 rfl (wk1 rfl (wk1 rfl (wk1 rfl (wk1 rfl (wk1 rfl (wk1 rfl (wk1 rfl (wk1 rfl (wk1 rfl (wk1 rfl (wka (wka (wka (wka (wka (wka (wka (wka (wka (wka (wka (wka (wka (wka (wka (wk1 rfl (wk1 rfl (wk1 rfl (wk1 rfl (wk1 rfl (wk1 rfl (wk1 rfl (wk1 rfl (wk1 rfl (wk1 rfl (wk1 rfl (wk1 rfl (wk1 rfl (wk1 rfl (wk1 rfl (wk1 rfl (wk1 rfl (wk1 rfl (wk1 rfl (wk1 rfl (wk1 rfl (wk1 rfl (wk1 rfl (wk1 rfl (wk1 rfl (wk1 rfl (wk1 rfl (wk1 rfl (wk1 rfl (wk1 rfl (wk1 rfl (wk1 rfl (wk1 rfl (wk1 rfl (wk1 rfl (wk1 rfl (wk1 rfl (wk1 rfl (wk1 rfl (wk1 rfl (wk1 rfl (wk1 rfl (wk1 rfl (wk1 rfl (wk1 rfl (wk1 rfl (wk1 rfl (wk1 rfl (wk1 rfl wk0)))))))))))))))))))))))))))))))))))))))))))))))))))))))))))))))))))))))))))))))))))))))))))))))))))))))))))))))))))))))))))) rfl)⟩
        · skip
          have hQ : ∀ t, Gd S t → true = false ∧ (0, 0, ⟨#[]⟩) = t.1 ∧ S.drop (tP S p 2 b) = le 2 t.2.length ++ (t.2.zip (kindI t)).flatMap encC := fun t ht => by
            have h1 := (hR t ht).1
            have h2 := (hp4 t ht).2.1
            have h3 := kinds_pos t
            rw [← h2] at h3
            exact absurd hc3 (by omega)
          refine w_reg ?_
          refine s_val rfl (v_fap0 lk4) (ptS pt4) ?_
          refine s_eff rfl rfl (e_store (lkS lk4) (cvl lkb rfl) (hga hn rfl) rfl (Nat.le_of_ble_eq_true rfl) rfl WRefC_sc2_1 (hs1 hn)) ptn ?_
          refine s_nil ?_
          refine n_thn ?_
          exact ⟨⟨tP S p 2 b, true, (0, 0, ⟨#[]⟩)⟩, (by exact ⟨hq2, Nat.zero_le _, hQ⟩), (by (try dsimp only); (try simp only [setsT, setsE, List.set_cons_zero, List.set_cons_succ]); exact ALe.same (wk1 rfl (wk1 rfl (wk1 rfl (wk1 rfl (wk1 rfl (wk1 rfl (wk1 rfl (wk1 rfl (wk1 rfl (wk1 rfl (wk1 rfl (wk1 rfl (wk1 rfl (wk1 rfl (wk1 rfl (wk1 rfl (wk1 rfl (wk1 rfl (wk1 rfl (wk1 rfl (wk1 rfl (wk1 rfl (wk1 rfl (wk1 rfl (wk1 rfl (wk1 rfl (wk1 rfl (wk1 rfl (wk1 rfl (wk1 rfl (wk1 rfl (wk1 rfl (wk1 rfl (wk1 rfl (wk1 rfl (wk1 rfl (wk1 rfl (wk1 rfl (wk1 rfl (wk1 rfl (wk1 rfl (wk1 rfl (wk1 rfl (wk1 rfl (wk1 rfl (wk1 rfl (wk1 rfl (wk1 rfl (wk1 rfl (wk1 rfl (wk1 rfl (wk1 rfl (wk1 rfl (wk1 rfl (wk1 rfl (wk1 rfl (wk1 rfl (wk1 rfl (wk1 rfl (wk1 rfl (wka (wka (wka (wka (wka (wka (wka (wka (wka (wka (wka (wka (wka (wka (wka (wk1 rfl (wk1 rfl (wk1 rfl (wk1 rfl (wk1 rfl (wk1 rfl (wk1 rfl (wk1 rfl (wk1 rfl (wk1 rfl (wk1 rfl (wk1 rfl (wk1 rfl (wk1 rfl (wk1 rfl (wk1 rfl (wk1 rfl (wk1 rfl (wk1 rfl (wk1 rfl (wk1 rfl (wk1 rfl (wk1 rfl (wk1 rfl (wk1 rfl (wk1 rfl (wk1 rfl (wk1 rfl (wk1 rfl (wk1 rfl (wk1 rfl (wk1 rfl (wk1 rfl (wk1 rfl (wk1 rfl (wk1 rfl (wk1 rfl (wk1 rfl (wk1 rfl (wk1 rfl (wk1 rfl (wk1 rfl (wk1 rfl (wk1 rfl (wk1 rfl (wk1 rfl (wk1 rfl (wk1 rfl (wk1 rfl wk0)))))))))))))))))))))))))))))))))))))))))))))))))))))))))))))))))))))))))))))))))))))))))))))))))))))))))))))))))))))))))))) rfl)⟩
      · skip
        have hQ : ∀ t, Gd S t → true = false ∧ (0, 0, ⟨#[]⟩) = t.1 ∧ S.drop (tP S p 2 b) = le 2 t.2.length ++ (t.2.zip (kindI t)).flatMap encC := fun t ht => by
          have := (hR t ht).2.1
          rw [this] at hg63
          exact absurd hg63 (by simp)
        refine s_no gt63 pt64 ?_
        refine s_no gt63 pt65 ?_
        refine s_no gt63 pt66 ?_
        refine s_no gt63 pt67 ?_
        refine s_val rfl (v_pickF lk63 lkb) pt68 ?_
        refine s_nil ?_
        refine n_seq ?_
        refine w_condF lk68 ?_
        refine w_reg ?_
        refine s_val rfl (v_fap0 lk4) (ptS pt4) ?_
        refine s_eff rfl rfl (e_store (lkS lk4) (cvl lkb rfl) (hga hn rfl) rfl (Nat.le_of_ble_eq_true rfl) rfl WRefC_sc2_1 (hs1 hn)) ptn ?_
        refine s_nil ?_
        refine n_thn ?_
        exact ⟨⟨tP S p 2 b, true, (0, 0, ⟨#[]⟩)⟩, (by exact ⟨hq2, Nat.zero_le _, hQ⟩), (by (try dsimp only); (try simp only [setsT, setsE, List.set_cons_zero, List.set_cons_succ]); exact ALe.same (wk1 rfl (wk1 rfl (wk1 rfl (wk1 rfl (wk1 rfl (wk1 rfl (wk1 rfl (wk1 rfl (wk1 rfl (wk1 rfl (wk1 rfl (wk1 rfl (wk1 rfl (wk1 rfl (wk1 rfl (wk1 rfl (wk1 rfl (wk1 rfl (wk1 rfl (wk1 rfl (wk1 rfl (wk1 rfl (wk1 rfl (wk1 rfl (wk1 rfl (wk1 rfl (wk1 rfl (wk1 rfl (wk1 rfl (wk1 rfl (wk1 rfl (wk1 rfl (wk1 rfl (wk1 rfl (wk1 rfl (wk1 rfl (wk1 rfl (wk1 rfl (wk1 rfl (wk1 rfl (wk1 rfl (wk1 rfl (wk1 rfl (wk1 rfl (wk1 rfl (wk1 rfl (wk1 rfl (wk1 rfl (wk1 rfl (wk1 rfl (wk1 rfl (wk1 rfl (wk1 rfl (wk1 rfl (wk1 rfl (wk1 rfl (wk1 rfl (wk1 rfl (wk1 rfl (wk1 rfl (wka (wka (wka (wka (wka (wka (wka (wka (wka (wka (wka (wka (wka (wka (wka (wk1 rfl (wk1 rfl (wk1 rfl (wk1 rfl (wk1 rfl (wk1 rfl (wk1 rfl (wk1 rfl (wk1 rfl (wk1 rfl (wk1 rfl (wk1 rfl (wk1 rfl (wk1 rfl (wk1 rfl (wk1 rfl (wk1 rfl (wk1 rfl (wk1 rfl (wk1 rfl (wk1 rfl (wk1 rfl (wk1 rfl (wk1 rfl (wk1 rfl (wk1 rfl (wk1 rfl (wk1 rfl (wk1 rfl (wk1 rfl (wk1 rfl (wk1 rfl (wk1 rfl (wk1 rfl (wk1 rfl (wk1 rfl (wk1 rfl (wk1 rfl (wk1 rfl (wk1 rfl (wk1 rfl (wk1 rfl (wk1 rfl (wk1 rfl (wk1 rfl (wk1 rfl (wk1 rfl (wk1 rfl (wk1 rfl wk0)))))))))))))))))))))))))))))))))))))))))))))))))))))))))))))))))))))))))))))))))))))))))))))))))))))))))))))))))))))))))))) rfl)⟩
    · rintro ⟨p', b', F⟩ hq21
      try simp only [setsT, setsE, List.set_cons_zero, List.set_cons_succ]
      obtain ⟨hr1, hr2, hr3⟩ := hq21
      have hx3 := tX_bd (S := S) (p := p') (n := 2) (b := b')
      have hq3 := tP_le (S := S) (p := p') (n := 2) (b := b') hr1
      have hR2 : ∀ t, Gd S t → tX S p' 2 b' = (t.2.length : Int) ∧ tF S p' 2 b' = false ∧ S.drop (tP S p' 2 b') = (t.2.zip (kindI t)).flatMap encC := by
        intro t ht
        obtain ⟨g1, g2, g3⟩ := hr3 t ht
        have hk := (enc_facts ht.1).2.2.1
        subst g1
        obtain ⟨a1, a2, a3, a4⟩ := t_le (n := 2) g3 (by omega) (by omega)
        exact ⟨a1, a2, by rw [a3]; exact a4⟩
      refine w_seq ?_
      refine w_reg ?_
      refine s_calls (mp1 lk4 (mp1 lki mp0)) (rtake_a (p := p') (b := b') (n := 2) (hga hn rfl) hr1 (by omega) hS) (hs1 hn) (ptS pt5) ?_
      refine s_val rfl (v_mv (lkS lk5)) pt6 ?_
      refine s_nil ?_
      refine n_seq ?_
      refine w_seq ?_
      refine w_seq ?_
      refine w_reg ?_
      refine s_val rfl (v_mv lki) pt11 ?_
      refine s_nil ?_
      refine n_seq ?_
      refine w_block ?_
      refine w_loop (ι := Nat × Nat × Bool × List Chg × Nat) (fun (x_ : Nat × Nat × Bool × List Chg × Nat) => match x_ with | ⟨i, p2, b2, C, v2⟩ => [(11, iv (i : Int)), (12, .any), (13, .any), (76, .any), (77, .any), (78, .any), (79, .any), (80, .any), (81, .any), (82, .any), (83, .any), (84, .any), (85, .any), (86, .any), (87, .any), (88, .any), (89, .any), (90, .any), (91, .any), (92, .any), (93, .any), (94, .any), (95, .any), (96, .any), (97, .any), (98, .any), (99, .any), (100, .any), (101, .any), (102, .any), (103, .any), (104, .any), (105, .any), (106, .any), (107, .any), (108, .any)]) (fun (x_ : Nat × Nat × Bool × List Chg × Nat) => match x_ with | ⟨i, p2, b2, C, v2⟩ => [(1, .mk 0 77 3 [sb S, iv (p2 : Int), bv b2]), (3, .mk 0 26 4 [iv F.1, iv F.2.1, sv F.2.2, .own (N + 4) v2 C.length]), (4, .mk v2 46 4 (rows chgC C))]) (fun (x_ : Nat × Nat × Bool × List Chg × Nat) => match x_ with | ⟨i, p2, b2, C, v2⟩ => (i : Int) ≤ tX S p' 2 b' ∧ p2 ≤ S.length ∧ C.length ≤ i ∧ (∀ x ∈ C, x.2.2.2.size ≤ maxLen) ∧ ∀ t, Gd S t → b2 = false ∧ C = t.2.take i ∧ S.drop p2 = ((t.2.zip (kindI t)).drop i).flatMap encC) (fun (x_ : Nat × Nat × Bool × List Chg × Nat) => match x_ with | ⟨i, p2, b2, C, v2⟩ => (tX S p' 2 b' - (i : Int)).toNat) (⟨0, tP S p' 2 b', tF S p' 2 b', [], 0⟩) (by exact ⟨hx3.1, hq3, Nat.le_refl _, by simp, fun t ht => ⟨(hR2 t ht).2.1, by simp, by simpa using (hR2 t ht).2.2⟩⟩) (by try simp only [setsT, setsE, List.set_cons_zero, List.set_cons_succ]; exact ALe.same (wk1 rfl (wk1 rfl (wk1 rfl (wk1 rfl (wk1 rfl (wk1 rfl (wk1 rfl (wk1 rfl (wk1 rfl (wk1 rfl (wk1 rfl (wk1 (by first | rfl | exact ivx (by omega) | (simp; done)) (wka (wka (wk1 rfl (wk1 rfl (wk1 rfl (wk1 rfl (wk1 rfl (wk1 rfl (wk1 rfl (wk1 rfl (wk1 rfl (wk1 rfl (wk1 rfl (wk1 rfl (wk1 rfl (wk1 rfl (wk1 rfl (wk1 rfl (wk1 rfl (wk1 rfl (wk1 rfl (wk1 rfl (wk1 rfl (wk1 rfl (wk1 rfl (wk1 rfl (wk1 rfl (wk1 rfl (wk1 rfl (wk1 rfl (wk1 rfl (wk1 rfl (wk1 rfl (wk1 rfl (wk1 rfl (wk1 rfl (wk1 rfl (wk1 rfl (wk1 rfl (wk1 rfl (wk1 rfl (wk1 rfl (wk1 rfl (wk1 rfl (wk1 rfl (wk1 rfl (wk1 rfl (wk1 rfl (wk1 rfl (wk1 rfl (wk1 rfl (wk1 rfl (wk1 rfl (wk1 rfl (wk1 rfl (wk1 rfl (wk1 rfl (wk1 rfl (wk1 rfl (wk1 rfl (wk1 rfl (wk1 rfl (wk1 rfl (wk1 rfl (wka (wka (wka (wka (wka (wka (wka (wka (wka (wka (wka (wka (wka (wka (wka (wka (wka (wka (wka (wka (wka (wka (wka (wka (wka (wka (wka (wka (wka (wka (wka (wka (wka (wk1 rfl (wk1 rfl (wk1 rfl (wk1 rfl (wk1 rfl (wk1 rfl (wk1 rfl (wk1 rfl (wk1 rfl (wk1 rfl (wk1 rfl (wk1 rfl (wk1 rfl (wk1 rfl (wk1 rfl wk0)))))))))))))))))))))))))))))))))))))))))))))))))))))))))))))))))))))))))))))))))))))))))))))))))))))))))))))))))))))))))))) rfl) ?_
      rintro ⟨i, p2, b2, C, v2⟩ hi2
      try simp only [setsT, setsE, List.set_cons_zero, List.set_cons_succ]
      obtain ⟨hj1, hj2, hj3, hj4, hj5⟩ := hi2
      have hCl : C.length ≤ 65535 := by omega
      refine w_seq ?_
      refine w_seq ?_
      refine w_reg ?_
      refine s_val rfl (v_mv lk11) (ptS pt6) ?_
      refine s_val rfl (v_mv lk6) (ptS pt7) ?_
      refine s_val rfl (v_lss (lkS lk6) (lkS lk7)) (ptS pt8) ?_
      refine s_val rfl (v_mv (lkS lk8)) (ptS pt9) ?_
      first | refine s_splitP (gtS gt9) (ptS pt9) (ptS pt9) (fun hg79 => ?_) (fun hg79 => ?_) | refine s_splitB (gtS gt9) (ptS pt9) (ptS pt9) (fun hg79 => ?_) (fun hg79 => ?_)
      · skip
        refine s_do (gtS gt9) ?_
        refine s_val rfl (v_fap0 lk4) (ptS pt10) ?_
        refine s_do (gtS gt9) ?_
        refine s_val rfl (v_loadp (lkS lk10) (hga hn rfl) gt2) (ptS pt11) ?_
        refine s_do (gtS gt9) ?_
        refine s_val rfl (v_notB (lkS lk11)) (ptS pt12) ?_
        refine s_val rfl (v_pickT (lkS lk9) (lkS lk12)) (ptS pt13) ?_
        refine s_nil ?_
        refine n_seq ?_
        refine w_condB (lkS lk13) (fun hc4 => ?_) (fun hc4 => ?_)
        · skip
          have hib : b2 = false := by simpa using hc4
          have h1 : Q1 S p2 b2 ≤ S.length := tP_le hj2
          have h2 : Q2 S p2 b2 ≤ S.length := tP_le h1
          have x1 : 0 ≤ C1 S p2 b2 ∧ C1 S p2 b2 < 256 ^ 5 := tX_bd
          have x2 : 0 ≤ C2 S p2 b2 ∧ C2 S p2 b2 < 256 ^ 2 := tX_bd
          have x1' : 0 ≤ tX S p2 5 b2 ∧ tX S p2 5 b2 < 256 ^ 5 := tX_bd
          have x2' : C2 S p2 b2 = tX S (Q1 S p2 b2) 2 (D1 S p2 b2) := rfl
          have hgood : ∀ t, Gd S t → D2 S p2 b2 = false ∧ C2 S p2 b2 < (K.length : Int) ∧ C ++ [(C1 S p2 b2 - 274877906944, K.getD (C2 S p2 b2).toNat zl)] = t.2.take (i + 1) ∧ S.drop (Q2 S p2 b2) = ((t.2.zip (kindI t)).drop (i + 1)).flatMap encC := by
            intro t ht
            obtain ⟨g1, g2, g3⟩ := hj5 t ht
            obtain ⟨k1, k2, k3, k4, k5, k6⟩ := enc_facts ht.1
            have gm := (hR2 t ht).1
            have gi : i < t.2.length := by omega
            have gz : i < (t.2.zip (kindI t)).length := by omega
            have gk := k6 _ (List.getElem_mem gz)
            rw [List.drop_eq_getElem_cons gz, List.flatMap_cons] at g3
            have gl := (List.getElem?_eq_some_iff.1 gk.2).1
            obtain ⟨y1, y2, y3, y4⟩ := chg_good (c := ((t.2.zip (kindI t))[i]).1) (k := ((t.2.zip (kindI t))[i]).2) g3 gk.1 (by omega)
            subst g1
            have hK := (hp4 t ht).2.1
            refine ⟨y3, by rw [y2, hK]; omega, ?_, y4⟩
            rw [y1, y2, Int.toNat_natCast, hK, List.getD_eq_getElem?_getD, gk.2, g2, List.take_succ_eq_append_getElem gi]
            simp only [List.getElem_zip]
            rfl
          refine w_skip ?_
          refine n_seq ?_
          refine w_seq ?_
          refine w_block ?_
          refine w_seq ?_
          refine w_reg ?_
          refine s_calls (mp1 lk4 (mp1 lki mp0)) (rtake_a (p := p2) (b := b2) (n := 5) (hga hn rfl) hj2 (by omega) hS) (hs1 hn) (ptS pt16) ?_
          refine s_val rfl (v_sub (lkS lk16) lki (by omega) (by omega)) (ptS pt17) ?_
          refine s_val rfl (v_mv (lkS lk17)) pt12 ?_
          refine s_nil ?_
          refine n_seq ?_
          refine w_seq ?_
          refine w_reg ?_
          refine s_calls (mp1 lk4 (mp1 lki mp0)) (rtake_a (p := Q1 S p2 b2) (b := D1 S p2 b2) (n := 2) (hga hn rfl) h1 (by omega) hS) (hs1 hn) (ptS pt18) ?_
          refine s_val rfl (v_mv (lkS lk18)) pt13 ?_
          refine s_nil ?_
          refine n_seq ?_
          refine w_seq ?_
          refine w_seq ?_
          refine w_reg ?_
          refine s_val rfl (v_fap0 lk4) (ptS pt19) ?_
          refine s_val rfl (v_loadp (lkS lk19) (hga hn rfl) gt2) (ptS pt20) ?_
          refine s_val rfl (v_mv (lkS lk20)) (ptS pt21) ?_
          refine s_splitB (gtS gt21) (ptS pt21) (ptS pt21) (fun hg91 => ?_) (fun hg91 => ?_)
          · skip
            have hN : ∀ t, ¬ Gd S t := fun t ht => absurd (hgood t ht).1 (by show ¬ tF S (Q1 S p2 b2) 2 (D1 S p2 b2) = false; rw [hg91]; simp)
            refine s_no (gtS gt21) (ptS pt22) ?_
            refine s_no (gtS gt21) (ptS pt23) ?_
            refine s_no (gtS gt21) (ptS pt24) ?_
            refine s_no (gtS gt21) (ptS pt25) ?_
            refine s_val rfl (v_pickT (lkS lk21) lkb) (ptS pt26) ?_
            refine s_nil ?_
            refine n_seq ?_
            refine w_condT (lkS lk26) ?_
            refine w_seq ?_
            refine w_reg ?_
            refine s_val rfl (v_fap0 lk4) (ptS pt27) ?_
            refine s_eff rfl rfl (e_store (lkS lk27) (cvl lkb rfl) (hga hn rfl) rfl (Nat.le_of_ble_eq_true rfl) rfl WRefC_sc2_1 (hs1 hn)) ptn ?_
            refine s_nil ?_
            refine n_seq ?_
            refine w_exit ?_
            refine x_thn ?_
            refine x_pas (Nat.ne_of_beq_eq_false rfl) ?_
            refine x_thn ?_
            refine x_thn ?_
            refine x_blk ?_
            refine n_seqw (ALe.iceCellR (hga hn rfl) (hga hn rfl) (by omega) gt3 (List.take_of_length_le (by rw [chg_len]; exact Nat.le_refl _)) (by rw [chg_len]; exact Nat.le_refl _) pt3 (hs4 hn) (hs3 hn)) ?_
            refine w_seq ?_
            refine w_seq ?_
            refine w_reg ?_
            refine s_val rfl (v_fap0 lk4) (ptS pt39) ?_
            refine s_val rfl (v_loadp (lkS lk39) (hga hn rfl) gt2) (ptS pt40) ?_
            refine s_val rfl (v_mv (lkS lk40)) (ptS pt41) ?_
            refine s_no (gtS gt41) (ptS pt42) ?_
            refine s_no (gtS gt41) (ptS pt43) ?_
            refine s_no (gtS gt41) (ptS pt44) ?_
            refine s_val rfl (v_pickT (lkS lk41) lkb) (ptS pt45) ?_
            refine s_val rfl (v_mv (lkS lk45)) (ptS pt46) ?_
            refine s_no (gtS gt46) (ptS pt47) ?_
            refine s_no (gtS gt46) (ptS pt48) ?_
            refine s_no (gtS gt46) (ptS pt49) ?_
            refine s_no (gtS gt46) (ptS pt50) ?_
            refine s_val rfl (v_pickT (lkS lk46) lkb) (ptS pt51) ?_
            refine s_nil ?_
            refine n_seq ?_
            refine w_condT (lkS lk51) ?_
            refine w_seq ?_
            refine w_reg ?_
            refine s_val rfl (v_build WRefC_DecodeOf_136) (ptS pt52) ?_
            refine s_eff rfl rfl (e_store lk2 (cvl (lkS lk52) rfl) (hga hn rfl) rfl (Nat.le_of_ble_eq_true rfl) rfl WRefC_sc0_4 (hs0 hn)) ptn ?_
            refine s_val rfl (v_mv lki) pt3 ?_
            refine s_nil ?_
            refine n_seq ?_
            refine w_rets ?_
            refine r_thn ?_
            refine w_ret (rsn (rm1 (rr_c gt2 (hga hn rfl) (ld1 WRefC_tk0_4 rfl)) (rm1 (rr_t gt3) rm0))) ?_
            refine rtw (by first | rfl | (simp only [AV.lt, AV.ltL, Ent.lt, List.all_cons, List.all_nil, Bool.and_true, Bool.and_self, decide_true, chg_lt, u8_lt, loc_lt, in_lt, ltL_app]; done) | (simp [AV.lt, AV.ltL, Ent.lt, chg_lt, u8_lt, loc_lt, in_lt, ltL_app, *]; done) | (simp [AV.lt, AV.ltL, Ent.lt, chg_lt, u8_lt, loc_lt, in_lt, ltL_app, *]; omega)) ?_
            rw [hno (fun ⟨t, ht⟩ => hN t ht)]; exact Wk.tup (wkw hz (wk1 rfl wk0))
          · skip
            refine s_do (gtS gt21) ?_
            refine s_val rfl (v_mv lk13) (ptS pt22) ?_
            refine s_do (gtS gt21) ?_
            refine s_val rfl (v_mv lk5) (ptS pt23) ?_
            refine s_do (gtS gt21) ?_
            refine s_val rfl (v_lenL (lkS lk23)) (ptS pt24) ?_
            refine s_do (gtS gt21) ?_
            refine s_val rfl (v_geq (lkS lk22) (lkS lk24)) (ptS pt25) ?_
            refine s_val rfl (v_pickF (lkS lk21) (lkS lk25)) (ptS pt26) ?_
            refine s_nil ?_
            refine n_seq ?_
            first | refine w_cond (lkS lk26) (fun hc5 => ?_) (fun hc5 => ?_) | refine w_condB (lkS lk26) (fun hc5 => ?_) (fun hc5 => ?_)
            · skip
              have hN : ∀ t, ¬ Gd S t := fun t ht => absurd (hgood t ht).2.1 (by omega)
              refine w_seq ?_
              refine w_reg ?_
              refine s_val rfl (v_fap0 lk4) (ptS pt27) ?_
              refine s_eff rfl rfl (e_store (lkS lk27) (cvl lkb rfl) (hga hn rfl) rfl (Nat.le_of_ble_eq_true rfl) rfl WRefC_sc2_1 (hs1 hn)) ptn ?_
              refine s_nil ?_
              refine n_seq ?_
              refine w_exit ?_
              refine x_thn ?_
              refine x_pas (Nat.ne_of_beq_eq_false rfl) ?_
              refine x_thn ?_
              refine x_thn ?_
              refine x_blk ?_
              refine n_seqw (ALe.iceCellR (hga hn rfl) (hga hn rfl) (by omega) gt3 (List.take_of_length_le (by rw [chg_len]; exact Nat.le_refl _)) (by rw [chg_len]; exact Nat.le_refl _) pt3 (hs4 hn) (hs3 hn)) ?_
              refine w_seq ?_
              refine w_seq ?_
              refine w_reg ?_
              refine s_val rfl (v_fap0 lk4) (ptS pt39) ?_
              refine s_val rfl (v_loadp (lkS lk39) (hga hn rfl) gt2) (ptS pt40) ?_
              refine s_val rfl (v_mv (lkS lk40)) (ptS pt41) ?_
              refine s_no (gtS gt41) (ptS pt42) ?_
              refine s_no (gtS gt41) (ptS pt43) ?_
              refine s_no (gtS gt41) (ptS pt44) ?_
              refine s_val rfl (v_pickT (lkS lk41) lkb) (ptS pt45) ?_
              refine s_val rfl (v_mv (lkS lk45)) (ptS pt46) ?_
              refine s_no (gtS gt46) (ptS pt47) ?_
              refine s_no (gtS gt46) (ptS pt48) ?_
              refine s_no (gtS gt46) (ptS pt49) ?_
              refine s_no (gtS gt46) (ptS pt50) ?_
              refine s_val rfl (v_pickT (lkS lk46) lkb) (ptS pt51) ?_
              refine s_nil ?_
              refine n_seq ?_
              refine w_condT (lkS lk51) ?_
              refine w_seq ?_
              refine w_reg ?_
              refine s_val rfl (v_build WRefC_DecodeOf_136) (ptS pt52) ?_
              refine s_eff rfl rfl (e_store lk2 (cvl (lkS lk52) rfl) (hga hn rfl) rfl (Nat.le_of_ble_eq_true rfl) rfl WRefC_sc0_4 (hs0 hn)) ptn ?_
              refine s_val rfl (v_mv lki) pt3 ?_
              refine s_nil ?_
              refine n_seq ?_
              refine w_rets ?_
              refine r_thn ?_
              refine w_ret (rsn (rm1 (rr_c gt2 (hga hn rfl) (ld1 WRefC_tk0_4 rfl)) (rm1 (rr_t gt3) rm0))) ?_
              refine rtw (by first | rfl | (simp only [AV.lt, AV.ltL, Ent.lt, List.all_cons, List.all_nil, Bool.and_true, Bool.and_self, decide_true, chg_lt, u8_lt, loc_lt, in_lt, ltL_app]; done) | (simp [AV.lt, AV.ltL, Ent.lt, chg_lt, u8_lt, loc_lt, in_lt, ltL_app, *]; done) | (simp [AV.lt, AV.ltL, Ent.lt, chg_lt, u8_lt, loc_lt, in_lt, ltL_app, *]; omega)) ?_
              rw [hno (fun ⟨t, ht⟩ => hN t ht)]; exact Wk.tup (wkw hz (wk1 rfl wk0))
            · skip
              have hkK : (C2 S p2 b2).toNat < K.length := by omega
              have hgd : K.getD (C2 S p2 b2).toNat zl = K[(C2 S p2 b2).toNat] := by rw [List.getD_eq_getElem?_getD, List.getElem?_eq_getElem hkK]; rfl
              rw [hgd] at hgood
              have hQ2 : ∀ x ∈ C ++ [(C1 S p2 b2 - 274877906944, K[(C2 S p2 b2).toNat])], x.2.2.2.size ≤ maxLen := by
                intro x hx
                rcases List.mem_append.1 hx with h' | h'
                · exact hj4 x h'
                · simp at h'; subst h'; exact hp3 _ (List.getElem_mem hkK)
              refine w_skip ?_
              refine n_seq ?_
              refine w_drwE ?_
              refine d_val rfl (v_fap0 lk10) (ptS pt28) ?_
              refine d_val rfl (v_loadp (lkS lk28) (hga hn rfl) gt3) (ptS pt29) ?_
              refine d_val rfl (v_mv lk12) (ptS pt30) ?_
              refine d_val rfl (v_mv lk5) (ptS pt31) ?_
              refine d_val rfl (v_mv lk13) (ptS pt32) ?_
              refine d_val rfl (v_iaR (k := (C2 S p2 b2).toNat) (lkS lk31) (lkS lk32) loc_len1 (Nat.le_of_ble_eq_true rfl) (by first | rfl | omega) (by omega) (by first | rfl | omega) rfl) (ptS pt33) ?_
              refine d_val rfl (v_loadrA (lkS lk33) WRefC_tk_3 rfl) (ptS pt34) ?_
              refine d_val rfl (v_build (WRefC_DecodeOf_115 (cvl (lkS lk30) rfl) rfl (cvl (lkS lk34) rfl) rfl)) (ptS pt35) ?_
              refine d_eff rfl rfl (hlk hn rfl) (l_lit (WRefC_DecodeOf_116 (cvl (lkS lk35) rfl) rfl)) (ptS pt36) WRefC_lap0 ?_
              refine d_nil ?_
              refine e_ent WRefC_lj5_1 ?_
              refine s_eff rfl rfl (e_app (sc_own (lkS lk36) (hga hn rfl) rfl WRefC_tk_4 (Nat.le_of_ble_eq_true rfl)) (lkS lk29) (hga hn rfl) (chg_len _) (by omega) rfl (hs4 hn)) (ptS pt37) ?_
              refine s_val rfl (v_fap0 lk10) (ptS pt38) ?_
              refine s_eff rfl rfl (e_store (lkS lk38) (cvl (lkS lk37) rfl) (hga hn rfl) rfl (Nat.le_of_ble_eq_true rfl) rfl WRefC_sc3_1 (hs3 hn)) ptn ?_
              refine s_nil ?_
              refine n_blk ?_
              refine n_seq ?_
              refine w_reg ?_
              refine s_val rfl (v_mv lk11) (ptS pt14) ?_
              refine s_val rfl (v_add (lkS lk14) lki (by omega) (by omega)) (ptS pt15) ?_
              refine s_val rfl (v_mv (lkS lk15)) pt11 ?_
              refine s_nil ?_
              refine n_thn ?_
              refine LoopTo.mk (⟨i + 1, Q2 S p2 b2, D2 S p2 b2, C ++ [(C1 S p2 b2 - 274877906944, K[(C2 S p2 b2).toNat])], v2 + 1⟩) (by omega) (by (try dsimp only); exact ⟨by omega, h2, by simp; omega, hQ2, fun t ht => ⟨(hgood t ht).1, (hgood t ht).2.2.1, (hgood t ht).2.2.2⟩⟩) (by (try dsimp only); (try simp only [setsT, setsE, List.set_cons_zero, List.set_cons_succ]); exact ALe.back (wk1 rfl (wk1 rfl (wk1 rfl (wk1 rfl (wk1 rfl (wk1 rfl (wk1 rfl (wk1 rfl (wk1 rfl (wk1 rfl (wk1 rfl (wk1 (by first | rfl | exact ivx (by omega) | (simp; done)) (wka (wka (wk1 rfl (wk1 rfl (wk1 rfl (wk1 rfl (wk1 rfl (wk1 rfl (wk1 rfl (wk1 rfl (wk1 rfl (wk1 rfl (wk1 rfl (wk1 rfl (wk1 rfl (wk1 rfl (wk1 rfl (wk1 rfl (wk1 rfl (wk1 rfl (wk1 rfl (wk1 rfl (wk1 rfl (wk1 rfl (wk1 rfl (wk1 rfl (wk1 rfl (wk1 rfl (wk1 rfl (wk1 rfl (wk1 rfl (wk1 rfl (wk1 rfl (wk1 rfl (wk1 rfl (wk1 rfl (wk1 rfl (wk1 rfl (wk1 rfl (wk1 rfl (wk1 rfl (wk1 rfl (wk1 rfl (wk1 rfl (wk1 rfl (wk1 rfl (wk1 rfl (wk1 rfl (wk1 rfl (wk1 rfl (wk1 rfl (wk1 rfl (wk1 rfl (wk1 rfl (wk1 rfl (wk1 rfl (wk1 rfl (wk1 rfl (wk1 rfl (wk1 rfl (wk1 rfl (wk1 rfl (wk1 rfl (wk1 rfl (wka (wka (wka (wka (wka (wka (wka (wka (wka (wka (wka (wka (wka (wka (wka (wka (wka (wka (wka (wka (wka (wka (wka (wka (wka (wka (wka (wka (wka (wka (wka (wka (wka (wk1 rfl (wk1 rfl (wk1 rfl (wk1 rfl (wk1 rfl (wk1 rfl (wk1 rfl (wk1 rfl (wk1 rfl (wk1 rfl (wk1 rfl (wk1 rfl (wk1 rfl (wk1 rfl (wk1 rfl wk0)))))))))))))))))))))))))))))))))))))))))))))))))))))))))))))))))))))))))))))))))))))))))))))))))))))))))))))))))))))))))))) (by simp only [rows_app, rows_one, List.length_append]; rfl) (k := N + 5) (by simp only [List.length_cons, List.length_nil, hn]) (by omega) (by first | rfl | (simp only [AV.lt, AV.ltL, Ent.lt, List.all_cons, List.all_nil, Bool.and_true, Bool.and_self, decide_true, chg_lt, u8_lt, loc_lt, in_lt, ltL_app]; done) | (simp [AV.lt, AV.ltL, Ent.lt, chg_lt, u8_lt, loc_lt, in_lt, ltL_app, *]; done) | (simp [AV.lt, AV.ltL, Ent.lt, chg_lt, u8_lt, loc_lt, in_lt, ltL_app, *]; omega)) (ltw (by omega) hlt) (by first | rfl | (simp only [AV.lt, AV.ltL, Ent.lt, List.all_cons, List.all_nil, Bool.and_true, Bool.and_self, decide_true, chg_lt, u8_lt, loc_lt, in_lt, ltL_app]; done) | (simp [AV.lt, AV.ltL, Ent.lt, chg_lt, u8_lt, loc_lt, in_lt, ltL_app, *]; done) | (simp [AV.lt, AV.ltL, Ent.lt, chg_lt, u8_lt, loc_lt, in_lt, ltL_app, *]; omega)))
        · skip
          have hQ : ∀ t, Gd S t → b2 = false ∧ C = t.2 := fun t ht => absurd (hj5 t ht).1 (by simpa using hc4)
          refine w_exit ?_
          refine x_thn ?_
          refine x_thn ?_
          refine x_blk ?_
          refine n_seqw (ALe.iceCellR (hga hn rfl) (hga hn rfl) (by omega) gt3 (List.take_of_length_le (by rw [chg_len]; exact Nat.le_refl _)) (by rw [chg_len]; exact Nat.le_refl _) pt3 (hs4 hn) (hs3 hn)) ?_
          refine w_seq ?_
          refine w_seq ?_
          refine w_reg ?_
          refine s_val rfl (v_fap0 lk4) (ptS pt39) ?_
          refine s_val rfl (v_loadp (lkS lk39) (hga hn rfl) gt2) (ptS pt40) ?_
          refine s_val rfl (v_mv (lkS lk40)) (ptS pt41) ?_
          refine s_splitB (gtS gt41) (ptS pt41) (ptS pt41) (fun hg111 => ?_) (fun hg111 => ?_)
          · skip
            refine s_no (gtS gt41) (ptS pt42) ?_
            refine s_no (gtS gt41) (ptS pt43) ?_
            refine s_no (gtS gt41) (ptS pt44) ?_
            refine s_val rfl (v_pickT (lkS lk41) lkb) (ptS pt45) ?_
            refine s_val rfl (v_mv (lkS lk45)) (ptS pt46) ?_
            refine s_no (gtS gt46) (ptS pt47) ?_
            refine s_no (gtS gt46) (ptS pt48) ?_
            refine s_no (gtS gt46) (ptS pt49) ?_
            refine s_no (gtS gt46) (ptS pt50) ?_
            refine s_val rfl (v_pickT (lkS lk46) lkb) (ptS pt51) ?_
            refine s_nil ?_
            refine n_seq ?_
            refine w_condT (lkS lk51) ?_
            refine w_seq ?_
            refine w_reg ?_
            refine s_val rfl (v_build WRefC_DecodeOf_136) (ptS pt52) ?_
            refine s_eff rfl rfl (e_store lk2 (cvl (lkS lk52) rfl) (hga hn rfl) rfl (Nat.le_of_ble_eq_true rfl) rfl WRefC_sc0_4 (hs0 hn)) ptn ?_
            refine s_val rfl (v_mv lki) pt3 ?_
            refine s_nil ?_
            refine n_seq ?_
            refine w_rets ?_
            refine r_thn ?_
            refine w_ret (rsn (rm1 (rr_c gt2 (hga hn rfl) (ld1 WRefC_tk0_4 rfl)) (rm1 (rr_t gt3) rm0))) ?_
            refine rtw (by first | rfl | (simp only [AV.lt, AV.ltL, Ent.lt, List.all_cons, List.all_nil, Bool.and_true, Bool.and_self, decide_true, chg_lt, u8_lt, loc_lt, in_lt, ltL_app]; done) | (simp [AV.lt, AV.ltL, Ent.lt, chg_lt, u8_lt, loc_lt, in_lt, ltL_app, *]; done) | (simp [AV.lt, AV.ltL, Ent.lt, chg_lt, u8_lt, loc_lt, in_lt, ltL_app, *]; omega)) ?_
            rw [hno (fun ⟨t, ht⟩ => absurd (hQ t ht).1 (by rw [hg111]; simp))]; exact Wk.tup (wkw hz (wk1 rfl wk0))
          · skip
            refine s_do (gtS gt41) ?_
            refine s_val rfl (v_loadpA lk10 (hga hn rfl) WRefC_tk0_4 rfl) (ptS pt42) ?_
            refine s_do (gtS gt41) ?_
            refine s_callp (mp1 (lkS lk42) mp0) (rcheck_a (l := C) hr2 hj4) (ptS pt43) ?_
            refine s_do (gtS gt41) ?_
            refine s_val rfl (v_neq (lkS lk43) lki) (ptS pt44) ?_
            refine s_val rfl (v_pickF (lkS lk41) (lkS lk44)) (ptS pt45) ?_
            refine s_val rfl (v_mv (lkS lk45)) (ptS pt46) ?_
            first | refine s_splitP (gtS gt46) (ptS pt46) (ptS pt46) (fun hg116 => ?_) (fun hg116 => ?_) | refine s_splitB (gtS gt46) (ptS pt46) (ptS pt46) (fun hg116 => ?_) (fun hg116 => ?_)
            · skip
              refine s_no (gtS gt46) (ptS pt47) ?_
              refine s_no (gtS gt46) (ptS pt48) ?_
              refine s_no (gtS gt46) (ptS pt49) ?_
              refine s_no (gtS gt46) (ptS pt50) ?_
              refine s_val rfl (v_pickT (lkS lk46) lkb) (ptS pt51) ?_
              refine s_nil ?_
              refine n_seq ?_
              refine w_condT (lkS lk51) ?_
              refine w_seq ?_
              refine w_reg ?_
              refine s_val rfl (v_build WRefC_DecodeOf_136) (ptS pt52) ?_
              refine s_eff rfl rfl (e_store lk2 (cvl (lkS lk52) rfl) (hga hn rfl) rfl (Nat.le_of_ble_eq_true rfl) rfl WRefC_sc0_4 (hs0 hn)) ptn ?_
              refine s_val rfl (v_mv lki) pt3 ?_
              refine s_nil ?_
              refine n_seq ?_
              refine w_rets ?_
              refine r_thn ?_
              refine w_ret (rsn (rm1 (rr_c gt2 (hga hn rfl) (ld1 WRefC_tk0_4 rfl)) (rm1 (rr_t gt3) rm0))) ?_
              refine rtw (by first | rfl | (simp only [AV.lt, AV.ltL, Ent.lt, List.all_cons, List.all_nil, Bool.and_true, Bool.and_self, decide_true, chg_lt, u8_lt, loc_lt, in_lt, ltL_app]; done) | (simp [AV.lt, AV.ltL, Ent.lt, chg_lt, u8_lt, loc_lt, in_lt, ltL_app, *]; done) | (simp [AV.lt, AV.ltL, Ent.lt, chg_lt, u8_lt, loc_lt, in_lt, ltL_app, *]; omega)) ?_
              rw [hno (fun ⟨t, ht⟩ => hg116 (by have h1 := (hQ t ht).2; have h2 := (hr3 t ht).2.1; rw [h1, h2]; exact ht.1))]; exact Wk.tup (wkw hz (wk1 rfl wk0))
            · skip
              refine s_do (gtS gt46) ?_
              refine s_val rfl (v_loadpA lk10 (hga hn rfl) WRefC_tk0_4 rfl) (ptS pt47) ?_
              refine s_do (gtS gt46) ?_
              refine s_callp (mp1 (lkS lk47) mp0) (rencode_a (t := (F, C)) (Decidable.of_not_not hg116)) (ptS pt48) ?_
              refine s_do (gtS gt46) ?_
              refine s_val rfl (v_mv lk0) (ptS pt49) ?_
              refine s_do (gtS gt46) ?_
              refine s_val rfl (v_neqS (lkS lk48) (lkS lk49)) (ptS pt50) ?_
              refine s_val rfl (v_pickF (lkS lk46) (lkS lk50)) (ptS pt51) ?_
              refine s_nil ?_
              refine n_seq ?_
              first | refine w_cond (lkS lk51) (fun hc6 => ?_) (fun hc6 => ?_) | refine w_condB (lkS lk51) (fun hc6 => ?_) (fun hc6 => ?_)
              · skip
                refine w_seq ?_
                refine w_reg ?_
                refine s_val rfl (v_build WRefC_DecodeOf_136) (ptS pt52) ?_
                refine s_eff rfl rfl (e_store lk2 (cvl (lkS lk52) rfl) (hga hn rfl) rfl (Nat.le_of_ble_eq_true rfl) rfl WRefC_sc0_4 (hs0 hn)) ptn ?_
                refine s_val rfl (v_mv lki) pt3 ?_
                refine s_nil ?_
                refine n_seq ?_
                refine w_rets ?_
                refine r_thn ?_
                refine w_ret (rsn (rm1 (rr_c gt2 (hga hn rfl) (ld1 WRefC_tk0_4 rfl)) (rm1 (rr_t gt3) rm0))) ?_
                refine rtw (by first | rfl | (simp only [AV.lt, AV.ltL, Ent.lt, List.all_cons, List.all_nil, Bool.and_true, Bool.and_self, decide_true, chg_lt, u8_lt, loc_lt, in_lt, ltL_app]; done) | (simp [AV.lt, AV.ltL, Ent.lt, chg_lt, u8_lt, loc_lt, in_lt, ltL_app, *]; done) | (simp [AV.lt, AV.ltL, Ent.lt, chg_lt, u8_lt, loc_lt, in_lt, ltL_app, *]; omega)) ?_
                rw [hno (fun ⟨t, ht⟩ => hc6 (by have h1 := (hQ t ht).2; have h2 := (hr3 t ht).2.1; rw [h1, h2, show enc (t.1, t.2) = S from ht.2]))]; exact Wk.tup (wkw hz (wk1 rfl wk0))
              · skip
                refine w_skip ?_
                refine n_seq ?_
                refine w_seq ?_
                refine w_reg ?_
                refine s_val rfl (v_loadpA lk10 (hga hn rfl) WRefC_tk0_4 rfl) (ptS pt53) ?_
                refine s_eff rfl rfl (e_store lk2 (cvl (lkS lk53) rfl) (hga hn rfl) rfl (Nat.le_of_ble_eq_true rfl) rfl WRefC_sc0_4 (hs0 hn)) ptn ?_
                refine s_val rfl (v_mv lki) pt3 ?_
                refine s_nil ?_
                refine n_seq ?_
                refine w_rets ?_
                refine w_ret (rsn (rm1 (rr_c gt2 (hga hn rfl) (ld1 WRefC_tk0_4 rfl)) (rm1 (rr_t gt3) rm0))) ?_
                refine rtw (by first | rfl | (simp only [AV.lt, AV.ltL, Ent.lt, List.all_cons, List.all_nil, Bool.and_true, Bool.and_self, decide_true, chg_lt, u8_lt, loc_lt, in_lt, ltL_app]; done) | (simp [AV.lt, AV.ltL, Ent.lt, chg_lt, u8_lt, loc_lt, in_lt, ltL_app, *]; done) | (simp [AV.lt, AV.ltL, Ent.lt, chg_lt, u8_lt, loc_lt, in_lt, ltL_app, *]; omega)) ?_
                have he0 : enc (F, C) = S := by have := congrArg (fun x : ByteArray => x.data.toList) (Decidable.of_not_not hc6); simpa using this
                rw [decV_is (Decidable.of_not_not hg116) he0]; exact Wk.refl _
      · skip
        have hQ : ∀ t, Gd S t → b2 = false ∧ C = t.2 := fun t ht => ⟨(hj5 t ht).1, by have gm := (hR2 t ht).1; rw [(hj5 t ht).2.1]; exact List.take_of_length_le (by omega)⟩
        refine s_no (gtS gt9) (ptS pt10) ?_
        refine s_no (gtS gt9) (ptS pt11) ?_
        refine s_no (gtS gt9) (ptS pt12) ?_
        refine s_val rfl (v_pickF (lkS lk9) lkb) (ptS pt13) ?_
        refine s_nil ?_
        refine n_seq ?_
        refine w_condF (lkS lk13) ?_
        refine w_exit ?_
        refine x_thn ?_
        refine x_thn ?_
        refine x_blk ?_
        refine n_seqw (ALe.iceCellR (hga hn rfl) (hga hn rfl) (by omega) gt3 (List.take_of_length_le (by rw [chg_len]; exact Nat.le_refl _)) (by rw [chg_len]; exact Nat.le_refl _) pt3 (hs4 hn) (hs3 hn)) ?_
        refine w_seq ?_
        refine w_seq ?_
        refine w_reg ?_
        refine s_val rfl (v_fap0 lk4) (ptS pt39) ?_
        refine s_val rfl (v_loadp (lkS lk39) (hga hn rfl) gt2) (ptS pt40) ?_
        refine s_val rfl (v_mv (lkS lk40)) (ptS pt41) ?_
        refine s_splitB (gtS gt41) (ptS pt41) (ptS pt41) (fun hg111 => ?_) (fun hg111 => ?_)
        · skip
          refine s_no (gtS gt41) (ptS pt42) ?_
          refine s_no (gtS gt41) (ptS pt43) ?_
          refine s_no (gtS gt41) (ptS pt44) ?_
          refine s_val rfl (v_pickT (lkS lk41) lkb) (ptS pt45) ?_
          refine s_val rfl (v_mv (lkS lk45)) (ptS pt46) ?_
          refine s_no (gtS gt46) (ptS pt47) ?_
          refine s_no (gtS gt46) (ptS pt48) ?_
          refine s_no (gtS gt46) (ptS pt49) ?_
          refine s_no (gtS gt46) (ptS pt50) ?_
          refine s_val rfl (v_pickT (lkS lk46) lkb) (ptS pt51) ?_
          refine s_nil ?_
          refine n_seq ?_
          refine w_condT (lkS lk51) ?_
          refine w_seq ?_
          refine w_reg ?_
          refine s_val rfl (v_build WRefC_DecodeOf_136) (ptS pt52) ?_
          refine s_eff rfl rfl (e_store lk2 (cvl (lkS lk52) rfl) (hga hn rfl) rfl (Nat.le_of_ble_eq_true rfl) rfl WRefC_sc0_4 (hs0 hn)) ptn ?_
          refine s_val rfl (v_mv lki) pt3 ?_
          refine s_nil ?_
          refine n_seq ?_
          refine w_rets ?_
          refine r_thn ?_
          refine w_ret (rsn (rm1 (rr_c gt2 (hga hn rfl) (ld1 WRefC_tk0_4 rfl)) (rm1 (rr_t gt3) rm0))) ?_
          refine rtw (by first | rfl | (simp only [AV.lt, AV.ltL, Ent.lt, List.all_cons, List.all_nil, Bool.and_true, Bool.and_self, decide_true, chg_lt, u8_lt, loc_lt, in_lt, ltL_app]; done) | (simp [AV.lt, AV.ltL, Ent.lt, chg_lt, u8_lt, loc_lt, in_lt, ltL_app, *]; done) | (simp [AV.lt, AV.ltL, Ent.lt, chg_lt, u8_lt, loc_lt, in_lt, ltL_app, *]; omega)) ?_
          rw [hno (fun ⟨t, ht⟩ => absurd (hQ t ht).1 (by rw [hg111]; simp))]; exact Wk.tup (wkw hz (wk1 rfl wk0))
        · skip
          refine s_do (gtS gt41) ?_
          refine s_val rfl (v_loadpA lk10 (hga hn rfl) WRefC_tk0_4 rfl) (ptS pt42) ?_
          refine s_do (gtS gt41) ?_
          refine s_callp (mp1 (lkS lk42) mp0) (rcheck_a (l := C) hr2 hj4) (ptS pt43) ?_
          refine s_do (gtS gt41) ?_
          refine s_val rfl (v_neq (lkS lk43) lki) (ptS pt44) ?_
          refine s_val rfl (v_pickF (lkS lk41) (lkS lk44)) (ptS pt45) ?_
          refine s_val rfl (v_mv (lkS lk45)) (ptS pt46) ?_
          first | refine s_splitP (gtS gt46) (ptS pt46) (ptS pt46) (fun hg116 => ?_) (fun hg116 => ?_) | refine s_splitB (gtS gt46) (ptS pt46) (ptS pt46) (fun hg116 => ?_) (fun hg116 => ?_)
          · skip
            refine s_no (gtS gt46) (ptS pt47) ?_
            refine s_no (gtS gt46) (ptS pt48) ?_
            refine s_no (gtS gt46) (ptS pt49) ?_
            refine s_no (gtS gt46) (ptS pt50) ?_
            refine s_val rfl (v_pickT (lkS lk46) lkb) (ptS pt51) ?_
            refine s_nil ?_
            refine n_seq ?_
            refine w_condT (lkS lk51) ?_
            refine w_seq ?_
            refine w_reg ?_
            refine s_val rfl (v_build WRefC_DecodeOf_136) (ptS pt52) ?_
            refine s_eff rfl rfl (e_store lk2 (cvl (lkS lk52) rfl) (hga hn rfl) rfl (Nat.le_of_ble_eq_true rfl) rfl WRefC_sc0_4 (hs0 hn)) ptn ?_
            refine s_val rfl (v_mv lki) pt3 ?_
            refine s_nil ?_
            refine n_seq ?_
            refine w_rets ?_
            refine r_thn ?_
            refine w_ret (rsn (rm1 (rr_c gt2 (hga hn rfl) (ld1 WRefC_tk0_4 rfl)) (rm1 (rr_t gt3) rm0))) ?_
            refine rtw (by first | rfl | (simp only [AV.lt, AV.ltL, Ent.lt, List.all_cons, List.all_nil, Bool.and_true, Bool.and_self, decide_true, chg_lt, u8_lt, loc_lt, in_lt, ltL_app]; done) | (simp [AV.lt, AV.ltL, Ent.lt, chg_lt, u8_lt, loc_lt, in_lt, ltL_app, *]; done) | (simp [AV.lt, AV.ltL, Ent.lt, chg_lt, u8_lt, loc_lt, in_lt, ltL_app, *]; omega)) ?_
            rw [hno (fun ⟨t, ht⟩ => hg116 (by have h1 := (hQ t ht).2; have h2 := (hr3 t ht).2.1; rw [h1, h2]; exact ht.1))]; exact Wk.tup (wkw hz (wk1 rfl wk0))
          · skip
            refine s_do (gtS gt46) ?_
            refine s_val rfl (v_loadpA lk10 (hga hn rfl) WRefC_tk0_4 rfl) (ptS pt47) ?_
            refine s_do (gtS gt46) ?_
            refine s_callp (mp1 (lkS lk47) mp0) (rencode_a (t := (F, C)) (Decidable.of_not_not hg116)) (ptS pt48) ?_
            refine s_do (gtS gt46) ?_
            refine s_val rfl (v_mv lk0) (ptS pt49) ?_
            refine s_do (gtS gt46) ?_
            refine s_val rfl (v_neqS (lkS lk48) (lkS lk49)) (ptS pt50) ?_
            refine s_val rfl (v_pickF (lkS lk46) (lkS lk50)) (ptS pt51) ?_
            refine s_nil ?_
            refine n_seq ?_
            first | refine w_cond (lkS lk51) (fun hc6 => ?_) (fun hc6 => ?_) | refine w_condB (lkS lk51) (fun hc6 => ?_) (fun hc6 => ?_)
            · skip
              refine w_seq ?_
              refine w_reg ?_
              refine s_val rfl (v_build WRefC_DecodeOf_136) (ptS pt52) ?_
              refine s_eff rfl rfl (e_store lk2 (cvl (lkS lk52) rfl) (hga hn rfl) rfl (Nat.le_of_ble_eq_true rfl) rfl WRefC_sc0_4 (hs0 hn)) ptn ?_
              refine s_val rfl (v_mv lki) pt3 ?_
              refine s_nil ?_
              refine n_seq ?_
              refine w_rets ?_
              refine r_thn ?_
              refine w_ret (rsn (rm1 (rr_c gt2 (hga hn rfl) (ld1 WRefC_tk0_4 rfl)) (rm1 (rr_t gt3) rm0))) ?_
              refine rtw (by first | rfl | (simp only [AV.lt, AV.ltL, Ent.lt, List.all_cons, List.all_nil, Bool.and_true, Bool.and_self, decide_true, chg_lt, u8_lt, loc_lt, in_lt, ltL_app]; done) | (simp [AV.lt, AV.ltL, Ent.lt, chg_lt, u8_lt, loc_lt, in_lt, ltL_app, *]; done) | (simp [AV.lt, AV.ltL, Ent.lt, chg_lt, u8_lt, loc_lt, in_lt, ltL_app, *]; omega)) ?_
              rw [hno (fun ⟨t, ht⟩ => hc6 (by have h1 := (hQ t ht).2; have h2 := (hr3 t ht).2.1; rw [h1, h2, show enc (t.1, t.2) = S from ht.2]))]; exact Wk.tup (wkw hz (wk1 rfl wk0))
            · skip
              refine w_skip ?_
              refine n_seq ?_
              refine w_seq ?_
              refine w_reg ?_
              refine s_val rfl (v_loadpA lk10 (hga hn rfl) WRefC_tk0_4 rfl) (ptS pt53) ?_
              refine s_eff rfl rfl (e_store lk2 (cvl (lkS lk53) rfl) (hga hn rfl) rfl (Nat.le_of_ble_eq_true rfl) rfl WRefC_sc0_4 (hs0 hn)) ptn ?_
              refine s_val rfl (v_mv lki) pt3 ?_
              refine s_nil ?_
              refine n_seq ?_
              refine w_rets ?_
              refine w_ret (rsn (rm1 (rr_c gt2 (hga hn rfl) (ld1 WRefC_tk0_4 rfl)) (rm1 (rr_t gt3) rm0))) ?_
              refine rtw (by first | rfl | (simp only [AV.lt, AV.ltL, Ent.lt, List.all_cons, List.all_nil, Bool.and_true, Bool.and_self, decide_true, chg_lt, u8_lt, loc_lt, in_lt, ltL_app]; done) | (simp [AV.lt, AV.ltL, Ent.lt, chg_lt, u8_lt, loc_lt, in_lt, ltL_app, *]; done) | (simp [AV.lt, AV.ltL, Ent.lt, chg_lt, u8_lt, loc_lt, in_lt, ltL_app, *]; omega)) ?_
              have he0 : enc (F, C) = S := by have := congrArg (fun x : ByteArray => x.data.toList) (Decidable.of_not_not hc6); simpa using this
              rw [decV_is (Decidable.of_not_not hg116) he0]; exact Wk.refl _
end Go.Proofs.Ytmbebimingkfeaa
