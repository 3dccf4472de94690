/-
  Contracts on plain data: wire.bytes and wire.Encode. Conditions: names are no longer than a text may be; what is turned to bytes is right.
-/
import Derived.Test.YtmbebimingkfeaaWEncA
import Derived.Test.YtmbebimingkfeaaASame
set_option linter.unusedVariables false
set_option linter.unusedSimpArgs false
set_option maxRecDepth 100000
namespace Go.Proofs.Ytmbebimingkfeaa
open Go.Ab Civ
section
theorem WEncB_bytes_3 {τ : Operand → AV} : fillAV τ [] [(.sl 0 0 true []), (.sl 0 0 true [])] = some [(.sl 0 0 true []), (.sl 0 0 true [])] := rfl
theorem WEncB_tk0_3 {a0 a1 a2 : AV} {l : List AV} : ((a0 :: a1 :: a2 :: l).drop 0).take 3 = [a0, a1, a2] := rfl
theorem WEncB_tk_4 {a0 a1 a2 a3 : AV} {l : List AV} : (a0 :: a1 :: a2 :: a3 :: l).take 4 = [a0, a1, a2, a3] := rfl
theorem WEncB_sc0_4 {a0 a1 a2 a3 c0 c1 c2 c3 : AV} {l : List AV} : setCells (a0 :: a1 :: a2 :: a3 :: l) 0 [c0, c1, c2, c3] = c0 :: c1 :: c2 :: c3 :: l := rfl
theorem WEncB_tk1_3 {a0 a1 a2 a3 : AV} {l : List AV} : ((a0 :: a1 :: a2 :: a3 :: l).drop 1).take 3 = [a1, a2, a3] := rfl
theorem WEncB_bytes_26 {τ : Operand → AV} {y0 : Operand} {x0_0 : AV} (h0 : cellsV (τ y0) = some [x0_0]) (l0 : [x0_0].all leaf = true) : fillAV τ [(0, 1, y0)] [(.v (.int .i64 0))] = some [x0_0] := by
  simp only [fillAV, h0, l0]
  rfl
theorem WEncB_tk_1 {a0 : AV} {l : List AV} : (a0 :: l).take 1 = [a0] := rfl
theorem WEncB_sc0_3 {a0 a1 a2 c0 c1 c2 : AV} {l : List AV} : setCells (a0 :: a1 :: a2 :: l) 0 [c0, c1, c2] = c0 :: c1 :: c2 :: l := rfl
theorem WEncB_sc0_1 {a0 c0 : AV} {l : List AV} : setCells (a0 :: l) 0 [c0] = c0 :: l := rfl
theorem WEncB_tk0_4 {a0 a1 a2 a3 : AV} {l : List AV} : ((a0 :: a1 :: a2 :: a3 :: l).drop 0).take 4 = [a0, a1, a2, a3] := rfl
end
/-- wire.bytes -/
def c40 : AC := (.seq (.reg [⟨(some 1), none, (.box 26 4 (.tmp 0))⟩, ⟨(some 2), none, (.mv (.const (.string ⟨#[]⟩)))⟩]) (.seq (.reg [⟨(some 12), none, (.build [(.sl 0 0 true []), (.sl 0 0 true [])] [])⟩, ⟨(some 13), none, (.box 96 2 (.tmp 12))⟩, ⟨(some 3), none, (.mv (.tmp 13))⟩]) (.seq (.reg [⟨(some 14), none, (.mv (.tmp 3))⟩, ⟨(some 15), none, (.fa 0 (.tmp 1))⟩, ⟨(some 16), none, (.load true 3 (.tmp 15))⟩, ⟨(some 17), none, (.call (.func 67) [(.tmp 14), (.tmp 16)])⟩, ⟨(some 4), none, (.mv (.tmp 17))⟩]) (.seq (.reg [⟨(some 5), none, (.mv (.const (.slice none 0 0)))⟩]) (.seq (.seq (.reg [⟨(some 18), none, (.fa 3 (.tmp 1))⟩, ⟨(some 19), none, (.load false 1 (.tmp 18))⟩, ⟨(some 20), none, (.len false (.tmp 19))⟩, ⟨(some 21), none, (.mv (.const (.int .i64 0)))⟩]) (.block 0 (.loop (.seq (.reg [⟨(some 22), none, (.bin .lss (.tmp 21) (.tmp 20))⟩]) (.seq (.cond (.tmp 22) .skip (.exit 0)) (.seq (.block 1 (.seq (.reg [⟨(some 23), none, (.ia 4 (.tmp 19) (.tmp 21))⟩, ⟨(some 24), none, (.load true 4 (.tmp 23))⟩, ⟨(some 7), none, (.new 46 4 [(.v (.int .i64 0)), (.v (.int .i64 0)), (.v (.int .i64 0)), (.v (.string ⟨#[]⟩))])⟩, ⟨none, none, (.store 4 (.tmp 7) (.tmp 24))⟩]) (.reg [⟨(some 25), none, (.mv (.tmp 5))⟩, ⟨(some 26), none, (.mv (.tmp 3))⟩, ⟨(some 27), none, (.fa 1 (.tmp 7))⟩, ⟨(some 28), none, (.load true 3 (.tmp 27))⟩, ⟨(some 29), none, (.call (.func 67) [(.tmp 26), (.tmp 28)])⟩, ⟨(some 30), none, (.lit 3 1 1 [(.v (.int .i64 0))] [(0, (1, (.tmp 29)))])⟩, ⟨(some 31), none, (.app 3 1 8 (.tmp 25) (.tmp 30))⟩, ⟨(some 5), none, (.mv (.tmp 31))⟩]))) (.reg [⟨(some 32), none, (.bin .add (.tmp 21) (.const (.int .i64 1)))⟩, ⟨(some 21), none, (.mv (.tmp 32))⟩]))))))) (.seq (.reg [⟨(some 33), none, (.mv (.tmp 3))⟩, ⟨(some 34), none, (.mv (.tmp 3))⟩, ⟨(some 35), none, (.nck (.tmp 34))⟩, ⟨(some 36), none, (.fa 1 (.tmp 35))⟩, ⟨(some 37), none, (.load false 1 (.tmp 36))⟩, ⟨(some 38), none, (.len false (.tmp 37))⟩, ⟨(some 39), none, (.call (.func 68) [(.tmp 33), (.tmp 38), (.const (.int .i64 2))])⟩]) (.seq (.seq (.reg [⟨(some 40), none, (.mv (.tmp 3))⟩, ⟨(some 41), none, (.nck (.tmp 40))⟩, ⟨(some 42), none, (.fa 1 (.tmp 41))⟩, ⟨(some 43), none, (.load false 1 (.tmp 42))⟩, ⟨(some 44), none, (.len false (.tmp 43))⟩, ⟨(some 45), none, (.mv (.const (.int .i64 0)))⟩]) (.block 2 (.loop (.seq (.reg [⟨(some 46), none, (.bin .lss (.tmp 45) (.tmp 44))⟩]) (.seq (.cond (.tmp 46) .skip (.exit 2)) (.seq (.block 3 (.seq (.reg [⟨(some 47), none, (.ia 3 (.tmp 43) (.tmp 45))⟩, ⟨(some 48), none, (.load true 3 (.tmp 47))⟩, ⟨(some 9), none, (.new 23 3 [(.v (.int .i64 0)), (.v (.int .i64 0)), (.v (.string ⟨#[]⟩))])⟩, ⟨none, none, (.store 3 (.tmp 9) (.tmp 48))⟩]) (.seq (.reg [⟨(some 49), none, (.mv (.tmp 3))⟩, ⟨(some 50), none, (.fa 0 (.tmp 9))⟩, ⟨(some 51), none, (.load false 1 (.tmp 50))⟩, ⟨(some 52), none, (.bin .add (.tmp 51) (.const (.int .i64 100000)))⟩, ⟨(some 53), none, (.call (.func 68) [(.tmp 49), (.tmp 52), (.const (.int .i64 3))])⟩]) (.seq (.reg [⟨(some 54), none, (.mv (.tmp 3))⟩, ⟨(some 55), none, (.fa 1 (.tmp 9))⟩, ⟨(some 56), none, (.load false 1 (.tmp 55))⟩, ⟨(some 57), none, (.call (.func 68) [(.tmp 54), (.tmp 56), (.const (.int .i64 2))])⟩]) (.seq (.reg [⟨(some 58), none, (.mv (.tmp 3))⟩, ⟨(some 59), none, (.fa 2 (.tmp 9))⟩, ⟨(some 60), none, (.load false 1 (.tmp 59))⟩, ⟨(some 61), none, (.len true (.tmp 60))⟩, ⟨(some 62), none, (.call (.func 68) [(.tmp 58), (.tmp 61), (.const (.int .i64 1))])⟩]) (.drw [⟨(some 63), none, (.mv (.tmp 3))⟩, ⟨(some 64), none, (.mv (.tmp 3))⟩, ⟨(some 65), none, (.nck (.tmp 64))⟩, ⟨(some 66), none, (.fa 0 (.tmp 65))⟩, ⟨(some 67), none, (.load false 1 (.tmp 66))⟩, ⟨(some 68), none, (.fa 2 (.tmp 9))⟩, ⟨(some 69), none, (.load false 1 (.tmp 68))⟩] [false, false, false, false] [⟨(some 70), none, (.app 5 1 1 (.tmp 67) (.tmp 69))⟩, ⟨(some 71), none, (.nck (.tmp 63))⟩, ⟨(some 72), none, (.fa 0 (.tmp 71))⟩, ⟨none, none, (.store 1 (.tmp 72) (.tmp 70))⟩])))))) (.reg [⟨(some 73), none, (.bin .add (.tmp 45) (.const (.int .i64 1)))⟩, ⟨(some 45), none, (.mv (.tmp 73))⟩]))))))) (.seq (.reg [⟨(some 74), none, (.mv (.tmp 3))⟩, ⟨(some 75), none, (.mv (.tmp 4))⟩, ⟨(some 76), none, (.call (.func 68) [(.tmp 74), (.tmp 75), (.const (.int .i64 2))])⟩]) (.seq (.reg [⟨(some 77), none, (.mv (.tmp 3))⟩, ⟨(some 78), none, (.fa 3 (.tmp 1))⟩, ⟨(some 79), none, (.load false 1 (.tmp 78))⟩, ⟨(some 80), none, (.len false (.tmp 79))⟩, ⟨(some 81), none, (.call (.func 68) [(.tmp 77), (.tmp 80), (.const (.int .i64 2))])⟩]) (.seq (.seq (.reg [⟨(some 82), none, (.fa 3 (.tmp 1))⟩, ⟨(some 83), none, (.load false 1 (.tmp 82))⟩, ⟨(some 84), none, (.len false (.tmp 83))⟩, ⟨(some 85), none, (.mv (.const (.int .i64 0)))⟩]) (.block 4 (.loop (.seq (.reg [⟨(some 86), none, (.bin .lss (.tmp 85) (.tmp 84))⟩]) (.seq (.cond (.tmp 86) .skip (.exit 4)) (.seq (.block 5 (.seq (.reg [⟨(some 87), none, (.mv (.tmp 85))⟩, ⟨(some 88), none, (.ia 4 (.tmp 83) (.tmp 85))⟩, ⟨(some 89), none, (.load true 4 (.tmp 88))⟩, ⟨(some 11), none, (.new 46 4 [(.v (.int .i64 0)), (.v (.int .i64 0)), (.v (.int .i64 0)), (.v (.string ⟨#[]⟩))])⟩, ⟨(some 10), none, (.mv (.tmp 87))⟩, ⟨none, none, (.store 4 (.tmp 11) (.tmp 89))⟩]) (.seq (.reg [⟨(some 90), none, (.mv (.tmp 3))⟩, ⟨(some 91), none, (.fa 0 (.tmp 11))⟩, ⟨(some 92), none, (.load false 1 (.tmp 91))⟩, ⟨(some 93), none, (.bin .add (.tmp 92) (.const (.int .i64 274877906944)))⟩, ⟨(some 94), none, (.call (.func 68) [(.tmp 90), (.tmp 93), (.const (.int .i64 5))])⟩]) (.reg [⟨(some 95), none, (.mv (.tmp 3))⟩, ⟨(some 96), none, (.mv (.tmp 5))⟩, ⟨(some 97), none, (.mv (.tmp 10))⟩, ⟨(some 98), none, (.ia 1 (.tmp 96) (.tmp 97))⟩, ⟨(some 99), none, (.load false 1 (.tmp 98))⟩, ⟨(some 100), none, (.call (.func 68) [(.tmp 95), (.tmp 99), (.const (.int .i64 2))])⟩])))) (.reg [⟨(some 101), none, (.bin .add (.tmp 85) (.const (.int .i64 1)))⟩, ⟨(some 85), none, (.mv (.tmp 101))⟩]))))))) (.seq (.reg [⟨(some 102), none, (.mv (.tmp 3))⟩, ⟨(some 103), none, (.nck (.tmp 102))⟩, ⟨(some 104), none, (.fa 0 (.tmp 103))⟩, ⟨(some 105), none, (.load false 1 (.tmp 104))⟩, ⟨(some 106), none, (.b2s (.tmp 105))⟩, ⟨(some 2), none, (.mv (.tmp 106))⟩]) .ret)))))))))))
theorem k40 : compF Try.prog 40 = some ⟨c40, [(.tmp 2)], 107⟩ := by kernel_rfl
theorem i40 {a0 : AV} {h : AH} {R : AE → Prop} (hw : ∀ n, h.length = n → (∀ e ∈ h, e.lt n = true) → AV.ltL n [a0] = true → AV.bdL [a0] → aw Try.prog n c40 (retA [(.tmp 2)] fun x h' => ∃ z, h' = h ++ z ∧ x.lt n = true ∧ R x) [a0, .any, .any, .any, .any, .any, .any, .any, .any, .any, .any, .any, .any, .any, .any, .any, .any, .any, .any, .any, .any, .any, .any, .any, .any, .any, .any, .any, .any, .any, .any, .any, .any, .any, .any, .any, .any, .any, .any, .any, .any, .any, .any, .any, .any, .any, .any, .any, .any, .any, .any, .any, .any, .any, .any, .any, .any, .any, .any, .any, .any, .any, .any, .any, .any, .any, .any, .any, .any, .any, .any, .any, .any, .any, .any, .any, .any, .any, .any, .any, .any, .any, .any, .any, .any, .any, .any, .any, .any, .any, .any, .any, .any, .any, .any, .any, .any, .any, .any, .any, .any, .any, .any, .any, .any, .any, .any] (h ++ [])) : ACalls Try.prog 40 [a0] h fun x h' => h' = h ∧ R x := ACalls.into k40 rfl hw
theorem w40 {a0 : AV} {h : AH} {res : AV} (hw : ∀ n, h.length = n → (∀ e ∈ h, e.lt n = true) → AV.ltL n [a0] = true → AV.bdL [a0] → aw Try.prog n c40 (retA [(.tmp 2)] fun x h' => ∃ z, h' = h ++ z ∧ x.lt n = true ∧ ∃ c, x = .ret c ∧ Wk c res) [a0, .any, .any, .any, .any, .any, .any, .any, .any, .any, .any, .any, .any, .any, .any, .any, .any, .any, .any, .any, .any, .any, .any, .any, .any, .any, .any, .any, .any, .any, .any, .any, .any, .any, .any, .any, .any, .any, .any, .any, .any, .any, .any, .any, .any, .any, .any, .any, .any, .any, .any, .any, .any, .any, .any, .any, .any, .any, .any, .any, .any, .any, .any, .any, .any, .any, .any, .any, .any, .any, .any, .any, .any, .any, .any, .any, .any, .any, .any, .any, .any, .any, .any, .any, .any, .any, .any, .any, .any, .any, .any, .any, .any, .any, .any, .any, .any, .any, .any, .any, .any, .any, .any, .any, .any, .any, .any] (h ++ [])) : ACalls Try.prog 40 [a0] h fun x h' => h' = h ∧ x = .ret res := ACalls.weak (ACalls.into k40 rfl hw)
theorem n40 {a0 : AV} {h : AH} {R : AE → AH → Prop} (hw : ∀ n, h.length = n → (∀ e ∈ h, e.lt n = true) → AV.ltL n [a0] = true → AV.bdL [a0] → aw Try.prog n c40 (retA [(.tmp 2)] R) [a0, .any, .any, .any, .any, .any, .any, .any, .any, .any, .any, .any, .any, .any, .any, .any, .any, .any, .any, .any, .any, .any, .any, .any, .any, .any, .any, .any, .any, .any, .any, .any, .any, .any, .any, .any, .any, .any, .any, .any, .any, .any, .any, .any, .any, .any, .any, .any, .any, .any, .any, .any, .any, .any, .any, .any, .any, .any, .any, .any, .any, .any, .any, .any, .any, .any, .any, .any, .any, .any, .any, .any, .any, .any, .any, .any, .any, .any, .any, .any, .any, .any, .any, .any, .any, .any, .any, .any, .any, .any, .any, .any, .any, .any, .any, .any, .any, .any, .any, .any, .any, .any, .any, .any, .any, .any, .any] (h ++ [])) : ACalls Try.prog 40 [a0] h R := ACalls.intoN k40 rfl hw
theorem j40 {a0 : AV} {h : AH} {R : AE → AH → Prop} (hw : ∀ n, h.length = n → (∀ e ∈ h, e.lt n = true) → AV.ltL n [a0] = true → AV.bdL [a0] → aw Try.prog n c40 (retA [(.tmp 2)] fun x h' => ∃ y z, h' = y ++ z ∧ y.length = n ∧ (∀ e ∈ y, e.lt n = true) ∧ x.lt n = true ∧ R x y) [a0, .any, .any, .any, .any, .any, .any, .any, .any, .any, .any, .any, .any, .any, .any, .any, .any, .any, .any, .any, .any, .any, .any, .any, .any, .any, .any, .any, .any, .any, .any, .any, .any, .any, .any, .any, .any, .any, .any, .any, .any, .any, .any, .any, .any, .any, .any, .any, .any, .any, .any, .any, .any, .any, .any, .any, .any, .any, .any, .any, .any, .any, .any, .any, .any, .any, .any, .any, .any, .any, .any, .any, .any, .any, .any, .any, .any, .any, .any, .any, .any, .any, .any, .any, .any, .any, .any, .any, .any, .any, .any, .any, .any, .any, .any, .any, .any, .any, .any, .any, .any, .any, .any, .any, .any, .any, .any] (h ++ [])) : ACalls Try.prog 40 [a0] h R := ACalls.intoG k40 rfl hw
/-- wire.Encode -/
def c21 : AC := (.seq (.reg [⟨(some 1), none, (.box 26 4 (.tmp 0))⟩, ⟨(some 2), none, (.mv (.const (.string ⟨#[]⟩)))⟩, ⟨(some 3), none, (.mv (.const (.int .i64 0)))⟩]) (.seq (.seq (.reg [⟨(some 5), none, (.load true 4 (.tmp 1))⟩, ⟨(some 6), none, (.call (.func 35) [(.tmp 5)])⟩, ⟨(some 4), none, (.mv (.tmp 6))⟩]) (.seq (.reg [⟨(some 7), none, (.mv (.tmp 4))⟩, ⟨(some 8), none, (.bin .neq (.tmp 7) (.const (.int .i64 0)))⟩]) (.cond (.tmp 8) (.seq (.reg [⟨(some 9), none, (.mv (.tmp 4))⟩, ⟨(some 2), none, (.mv (.const (.string ⟨#[]⟩)))⟩, ⟨(some 3), none, (.mv (.tmp 9))⟩]) .ret) .skip))) (.seq (.reg [⟨(some 10), none, (.load true 4 (.tmp 1))⟩, ⟨(some 11), none, (.call (.func 40) [(.tmp 10)])⟩, ⟨(some 2), none, (.mv (.tmp 11))⟩, ⟨(some 3), none, (.mv (.const (.int .i64 0)))⟩]) .ret)))
theorem k21 : compF Try.prog 21 = some ⟨c21, [(.tmp 2), (.tmp 3)], 12⟩ := by kernel_rfl
theorem i21 {a0 : AV} {h : AH} {R : AE → Prop} (hw : ∀ n, h.length = n → (∀ e ∈ h, e.lt n = true) → AV.ltL n [a0] = true → AV.bdL [a0] → aw Try.prog n c21 (retA [(.tmp 2), (.tmp 3)] fun x h' => ∃ z, h' = h ++ z ∧ x.lt n = true ∧ R x) [a0, .any, .any, .any, .any, .any, .any, .any, .any, .any, .any, .any] (h ++ [])) : ACalls Try.prog 21 [a0] h fun x h' => h' = h ∧ R x := ACalls.into k21 rfl hw
theorem w21 {a0 : AV} {h : AH} {res : AV} (hw : ∀ n, h.length = n → (∀ e ∈ h, e.lt n = true) → AV.ltL n [a0] = true → AV.bdL [a0] → aw Try.prog n c21 (retA [(.tmp 2), (.tmp 3)] fun x h' => ∃ z, h' = h ++ z ∧ x.lt n = true ∧ ∃ c, x = .ret c ∧ Wk c res) [a0, .any, .any, .any, .any, .any, .any, .any, .any, .any, .any, .any] (h ++ [])) : ACalls Try.prog 21 [a0] h fun x h' => h' = h ∧ x = .ret res := ACalls.weak (ACalls.into k21 rfl hw)
theorem n21 {a0 : AV} {h : AH} {R : AE → AH → Prop} (hw : ∀ n, h.length = n → (∀ e ∈ h, e.lt n = true) → AV.ltL n [a0] = true → AV.bdL [a0] → aw Try.prog n c21 (retA [(.tmp 2), (.tmp 3)] R) [a0, .any, .any, .any, .any, .any, .any, .any, .any, .any, .any, .any] (h ++ [])) : ACalls Try.prog 21 [a0] h R := ACalls.intoN k21 rfl hw
theorem j21 {a0 : AV} {h : AH} {R : AE → AH → Prop} (hw : ∀ n, h.length = n → (∀ e ∈ h, e.lt n = true) → AV.ltL n [a0] = true → AV.bdL [a0] → aw Try.prog n c21 (retA [(.tmp 2), (.tmp 3)] fun x h' => ∃ y z, h' = y ++ z ∧ y.length = n ∧ (∀ e ∈ y, e.lt n = true) ∧ x.lt n = true ∧ R x y) [a0, .any, .any, .any, .any, .any, .any, .any, .any, .any, .any, .any] (h ++ [])) : ACalls Try.prog 21 [a0] h R := ACalls.intoG k21 rfl hw
theorem encL_len (l : Loc) : (encL l).length = 6 + l.2.2.data.toList.length := by simp [encL, le_len]; omega
theorem encC_len (p : Chg × Nat) : (encC p).length = 7 := by simp [encC, le_len]
theorem flat_step {α : Type} (f : α → List UInt8) {l : List α} {k : Nat} (hk : k < l.length) : (l.take (k + 1)).flatMap f = (l.take k).flatMap f ++ f l[k] := by
  rw [List.take_succ_eq_append_getElem hk, List.flatMap_append, List.flatMap_cons, List.flatMap_nil, List.append_nil]
theorem zip_step {l : List Chg} {I : List Nat} {k : Nat} (hk : k < l.length) (hI : I.length = l.length) : ((l.zip I).take (k + 1)).flatMap encC = ((l.zip I).take k).flatMap encC ++ encC (l[k], I[k]'(by omega)) := by
  rw [flat_step encC (by rw [List.length_zip]; omega)]
  congr 2
  simp
theorem zip_len {l : List Chg} {I : List Nat} {k : Nat} (hk : k ≤ l.length) (hI : I.length = l.length) : (((l.zip I).take k).flatMap encC).length = 7 * k := by
  induction k with
  | zero => simp
  | succ k ih => rw [zip_step (by omega) hI, List.length_append, encC_len, ih (by omega)]; omega
theorem bytes_a {t : Tab} {full : Bool} {h : AH} (ht : okT t) (hv : checkT t = 0) :
    ACalls Try.prog 40 [.agg [iv t.1.1, iv t.1.2.1, sv t.1.2.2, .sl t.2.length 4 full (rows chgC t.2)]] h fun x h' => h' = h ∧ x = .ret (sv ⟨(enc t).toArray⟩) := by
  obtain ⟨hv1, hv2, hv3⟩ := checkT_all hv
  have hkl : ∀ x ∈ kinds t, locE x = 0 := ksOf_all _ _ (by intro x hx; simp at hx; subst hx; exact hv2) (fun c hc => (hv3 c hc).2)
  have hkn := kinds_len t
  have hIl : (kindI t).length = t.2.length := isOf_len _ _
  refine i40 ?_
  intro N hn hlt hlA hbd
  try simp only [AV.bdL, AV.bd, and_true, true_and] at hbd
  refine w_seq ?_
  refine w_reg ?_
  refine s_eff rfl rfl (e_box (cvl lk0 rfl) rfl (hl0 hn) ha0) pt1 ?_
  refine s_val rfl (v_mv lks) pt2 ?_
  refine s_nil ?_
  refine n_seq ?_
  refine w_seq ?_
  refine w_reg ?_
  refine s_val rfl (v_build WEncB_bytes_3) pt12 ?_
  refine s_eff rfl rfl (e_box (cvl lk12 rfl) rfl (hl1 hn) ha1) pt13 ?_
  refine s_val rfl (v_mv lk13) pt3 ?_
  refine s_nil ?_
  refine n_seqw (ALe.trans (ALe.own0Cell (st' := 1) (ty := 5) (hga hn rfl) gt0 (hl2 hn) pt0 (Eq.trans (congrArg (fun z => List.set z _ _) ha2) (hs1 hn))) (ALe.own0Cell (st' := 3) (ty := 23) (hga hn rfl) gt1 (hl3 hn) pt1 (Eq.trans (congrArg (fun z => List.set z _ _) ha3) (hs1 hn)))) ?_
  refine w_seq ?_
  refine w_reg ?_
  refine s_val rfl (v_mv lk3) pt14 ?_
  refine s_val rfl (v_fap0 lk1) pt15 ?_
  refine s_val rfl (v_loadpA lk15 (hga hn rfl) WEncB_tk0_3 rfl) pt16 ?_
  refine s_call2 (mp1 lk14 (mp1 lk16 mp0)) (kind_a (K := []) (l := t.1) (B := .own (N + 2) 0 0) (hga hn rfl) (hga hn rfl) (by omega) (by simp) (by simp [AV.lt, hn]) rfl) (hs1 hn) (hs3 hn) pt17 ?_
  refine s_val rfl (v_mv lk17) pt4 ?_
  refine s_nil ?_
  refine n_seq ?_
  refine w_seq ?_
  refine w_reg ?_
  refine s_val rfl (v_mv lkn) pt5 ?_
  refine s_nil ?_
  refine n_seqw (ALe.own0' (st' := 1) (ty := 3) gt5 (hl4 hn) pt5 ha4) ?_
  refine w_seq ?_
  refine w_seq ?_
  refine w_reg ?_
  refine s_val rfl (v_fap0 lk1) pt18 ?_
  refine s_val rfl (v_loadp lk18 (hga hn rfl) gt3) pt19 ?_
  refine s_val rfl (v_lenL lk19) pt20 ?_
  refine s_val rfl (v_mv lki) pt21 ?_
  refine s_nil ?_
  refine n_seq ?_
  refine w_block ?_
  refine w_loop (ι := Nat × List Loc × List Nat × Nat × Nat) (fun (x_ : Nat × List Loc × List Nat × Nat × Nat) => match x_ with | ⟨i, K, I, vk, vi⟩ => [(5, .own (N + 4) vi I.length), (21, iv (i : Int)), (7, .any), (22, .any), (23, .any), (24, .any), (25, .any), (26, .any), (27, .any), (28, .any), (29, .any), (30, .any), (31, .any), (32, .any)]) (fun (x_ : Nat × List Loc × List Nat × Nat × Nat) => match x_ with | ⟨i, K, I, vk, vi⟩ => [(1, .mk 0 96 2 [.own (N + 2) 0 0, .own (N + 3) vk K.length]), (3, .mk vk 23 3 (rows locC K)), (4, .mk vi 3 1 (rows inC I))]) (fun (x_ : Nat × List Loc × List Nat × Nat × Nat) => match x_ with | ⟨i, K, I, vk, vi⟩ => i ≤ t.2.length ∧ I.length = i ∧ kinds t = ksOf K (t.2.drop i) ∧ kindI t = I ++ isOf K (t.2.drop i) ∧ K.length ≤ i + 1) (fun (x_ : Nat × List Loc × List Nat × Nat × Nat) => match x_ with | ⟨i, K, I, vk, vi⟩ => t.2.length - i) (⟨0, [t.1], [], 1, 0⟩) (by exact ⟨by omega, rfl, by simp [kinds], by simp [kindI], by simp⟩) (by try simp only [setsT, setsE, List.set_cons_zero, List.set_cons_succ]; exact ALe.same (wk1 rfl (wk1 rfl (wk1 rfl (wk1 rfl (wk1 rfl (wk1 (by first | rfl | exact ivx (by omega) | (simp; done)) (wk1 rfl (wka (wk1 rfl (wk1 rfl (wk1 rfl (wk1 rfl (wk1 rfl (wk1 rfl (wk1 rfl (wk1 rfl (wk1 rfl (wk1 rfl (wk1 rfl (wk1 rfl (wk1 rfl (wk1 (by first | rfl | exact ivx (by omega) | (simp; done)) (wka (wka (wka (wka (wka (wka (wka (wka (wka (wka (wka (wk1 rfl (wk1 rfl (wk1 rfl (wk1 rfl (wk1 rfl (wk1 rfl (wk1 rfl (wk1 rfl (wk1 rfl (wk1 rfl (wk1 rfl (wk1 rfl (wk1 rfl (wk1 rfl (wk1 rfl (wk1 rfl (wk1 rfl (wk1 rfl (wk1 rfl (wk1 rfl (wk1 rfl (wk1 rfl (wk1 rfl (wk1 rfl (wk1 rfl (wk1 rfl (wk1 rfl (wk1 rfl (wk1 rfl (wk1 rfl (wk1 rfl (wk1 rfl (wk1 rfl (wk1 rfl (wk1 rfl (wk1 rfl (wk1 rfl (wk1 rfl (wk1 rfl (wk1 rfl (wk1 rfl (wk1 rfl (wk1 rfl (wk1 rfl (wk1 rfl (wk1 rfl (wk1 rfl (wk1 rfl (wk1 rfl (wk1 rfl (wk1 rfl (wk1 rfl (wk1 rfl (wk1 rfl (wk1 rfl (wk1 rfl (wk1 rfl (wk1 rfl (wk1 rfl (wk1 rfl (wk1 rfl (wk1 rfl (wk1 rfl (wk1 rfl (wk1 rfl (wk1 rfl (wk1 rfl (wk1 rfl (wk1 rfl (wk1 rfl (wk1 rfl (wk1 rfl (wk1 rfl (wk1 rfl wk0))))))))))))))))))))))))))))))))))))))))))))))))))))))))))))))))))))))))))))))))))))))))))))))))))))))))))) rfl) ?_
  rintro ⟨i, K, I, vk, vi⟩ hi1
  try simp only [setsT, setsE, List.set_cons_zero, List.set_cons_succ]
  obtain ⟨hi1, hi2, hi3, hi4, hi5⟩ := hi1
  refine w_seq ?_
  refine w_reg ?_
  refine s_val rfl (v_lss lk21 lk20) pt22 ?_
  refine s_nil ?_
  refine n_seq ?_
  refine w_seq ?_
  first | refine w_cond lk22 (fun hc1 => ?_) (fun hc1 => ?_) | refine w_condB lk22 (fun hc1 => ?_) (fun hc1 => ?_)
  · skip
    have hk : i < t.2.length := by omega
    rw [List.drop_eq_getElem_cons hk] at hi3 hi4
    have hkl2 := addK_len K t.2[i].2
    refine w_skip ?_
    refine n_seq ?_
    refine w_seq ?_
    refine w_block ?_
    refine w_seq ?_
    refine w_reg ?_
    refine s_val rfl (v_iaR lk19 lk21 chg_len1 (Nat.le_of_ble_eq_true rfl) (by first | rfl | omega) (by omega) (by first | rfl | omega) rfl) pt23 ?_
    refine s_val rfl (v_loadrA lk23 WEncB_tk_4 rfl) pt24 ?_
    refine s_eff rfl rfl (e_new (hl5 hn) ha5) pt7 ?_
    refine s_eff rfl rfl (e_store lk7 (cvl lk24 rfl) (hga hn rfl) rfl (Nat.le_of_ble_eq_true rfl) rfl WEncB_sc0_4 (hs5 hn)) ptn ?_
    refine s_nil ?_
    refine n_seq ?_
    refine w_reg ?_
    refine s_val rfl (v_mv lk5) pt25 ?_
    refine s_val rfl (v_mv lk3) pt26 ?_
    refine s_val rfl (v_fap0 lk7) pt27 ?_
    refine s_val rfl (v_loadpA lk27 (hga hn rfl) WEncB_tk1_3 rfl) pt28 ?_
    refine s_call2 (mp1 lk26 (mp1 lk28 mp0)) (kind_a (K := K) (l := t.2[i].2) (B := .own (N + 2) 0 0) (hga hn rfl) (hga hn rfl) (by omega) (by omega) (by simp [AV.lt, hn]) rfl) (hs1 hn) (hs3 hn) pt29 ?_
    refine s_eff rfl rfl (e_lit (WEncB_bytes_26 (cvl lk29 rfl) rfl) (hl6 hn) ha6) pt30 ?_
    refine s_eff rfl rfl (e_app (sc_own lk30 (hga hn rfl) rfl WEncB_tk_1 (Nat.le_of_ble_eq_true rfl)) lk25 (hga hn rfl) (in_len _) (by omega) rfl (hs4 hn)) pt31 ?_
    refine s_val rfl (v_mv lk31) pt5 ?_
    refine s_nil ?_
    refine n_blk ?_
    refine n_seq ?_
    refine w_reg ?_
    refine s_val rfl (v_add lk21 lki (by omega) (by omega)) pt32 ?_
    refine s_val rfl (v_mv lk32) pt21 ?_
    refine s_nil ?_
    refine n_thn ?_
    refine LoopTo.mk (⟨i + 1, addK K t.2[i].2, I ++ [idx K t.2[i].2], bump K t.2[i].2 vk, vi + 1⟩) (by omega) (by (try dsimp only); exact ⟨hk, by rw [List.length_append, hi2]; rfl, by rw [hi3, ksOf], by rw [hi4, isOf, List.append_assoc]; rfl, by omega⟩) (by (try dsimp only); (try simp only [setsT, setsE, List.set_cons_zero, List.set_cons_succ]); exact ALe.back (wk1 rfl (wk1 rfl (wk1 rfl (wk1 rfl (wk1 rfl (wk1 (by first | rfl | exact ivx (by omega) | (rw [List.length_append]; rfl) | (simp; done)) (wk1 rfl (wka (wk1 rfl (wk1 rfl (wk1 rfl (wk1 rfl (wk1 rfl (wk1 rfl (wk1 rfl (wk1 rfl (wk1 rfl (wk1 rfl (wk1 rfl (wk1 rfl (wk1 rfl (wk1 (by first | rfl | exact ivx (by omega) | (rw [List.length_append]; rfl) | (simp; done)) (wka (wka (wka (wka (wka (wka (wka (wka (wka (wka (wka (wk1 rfl (wk1 rfl (wk1 rfl (wk1 rfl (wk1 rfl (wk1 rfl (wk1 rfl (wk1 rfl (wk1 rfl (wk1 rfl (wk1 rfl (wk1 rfl (wk1 rfl (wk1 rfl (wk1 rfl (wk1 rfl (wk1 rfl (wk1 rfl (wk1 rfl (wk1 rfl (wk1 rfl (wk1 rfl (wk1 rfl (wk1 rfl (wk1 rfl (wk1 rfl (wk1 rfl (wk1 rfl (wk1 rfl (wk1 rfl (wk1 rfl (wk1 rfl (wk1 rfl (wk1 rfl (wk1 rfl (wk1 rfl (wk1 rfl (wk1 rfl (wk1 rfl (wk1 rfl (wk1 rfl (wk1 rfl (wk1 rfl (wk1 rfl (wk1 rfl (wk1 rfl (wk1 rfl (wk1 rfl (wk1 rfl (wk1 rfl (wk1 rfl (wk1 rfl (wk1 rfl (wk1 rfl (wk1 rfl (wk1 rfl (wk1 rfl (wk1 rfl (wk1 rfl (wk1 rfl (wk1 rfl (wk1 rfl (wk1 rfl (wk1 rfl (wk1 rfl (wk1 rfl (wk1 rfl (wk1 rfl (wk1 rfl (wk1 rfl (wk1 rfl (wk1 rfl (wk1 rfl (wk1 rfl wk0))))))))))))))))))))))))))))))))))))))))))))))))))))))))))))))))))))))))))))))))))))))))))))))))))))))))))) (by simp only [rows_app, rows_one]; rfl) (k := N + 5) (by simp only [List.length_cons, List.length_nil, hn]) (by omega) (by first | rfl | (simp only [AV.lt, AV.ltL, Ent.lt, List.all_cons, List.all_nil, Bool.and_true, Bool.and_self, decide_true, chg_lt, u8_lt, loc_lt, in_lt, ltL_app]; done) | (simp [AV.lt, AV.ltL, Ent.lt, chg_lt, u8_lt, loc_lt, in_lt, ltL_app, *]; done) | (simp [AV.lt, AV.ltL, Ent.lt, chg_lt, u8_lt, loc_lt, in_lt, ltL_app, *]; omega)) (ltw (by omega) hlt) (by first | rfl | (simp only [AV.lt, AV.ltL, Ent.lt, List.all_cons, List.all_nil, Bool.and_true, Bool.and_self, decide_true, chg_lt, u8_lt, loc_lt, in_lt, ltL_app]; done) | (simp [AV.lt, AV.ltL, Ent.lt, chg_lt, u8_lt, loc_lt, in_lt, ltL_app, *]; done) | (simp [AV.lt, AV.ltL, Ent.lt, chg_lt, u8_lt, loc_lt, in_lt, ltL_app, *]; omega)))
  · skip
    rw [List.drop_eq_nil_of_le (by omega), ksOf] at hi3
    rw [List.drop_eq_nil_of_le (by omega), isOf, List.append_nil] at hi4
    subst hi3 hi4
    refine w_exit ?_
    refine x_thn ?_
    refine x_thn ?_
    refine x_blk ?_
    refine n_seq ?_
    refine w_seq ?_
    refine w_reg ?_
    refine s_val rfl (v_mv lk3) pt33 ?_
    refine s_val rfl (v_mv lk3) pt34 ?_
    refine s_val rfl (v_nckp lk34) pt35 ?_
    refine s_val rfl (v_fap0 lk35) pt36 ?_
    refine s_val rfl (v_loadp lk36 (hga hn rfl) gt1) pt37 ?_
    refine s_val rfl (v_lenO lk37) pt38 ?_
    refine s_call2 (mp1 lk33 (mp1 lk38 (mp1 lki mp0))) (put_a (L := []) (k := 2) (hga hn rfl) (hga hn rfl) (by omega) (by omega) (by simp) (by simp [AV.lt, hn])) (hs1 hn) (hs2 hn) pt39 ?_
    refine s_nil ?_
    refine n_seq ?_
    refine w_seq ?_
    refine w_seq ?_
    refine w_reg ?_
    refine s_val rfl (v_mv lk3) pt40 ?_
    refine s_val rfl (v_nckp lk40) pt41 ?_
    refine s_val rfl (v_fap0 lk41) pt42 ?_
    refine s_val rfl (v_loadp lk42 (hga hn rfl) gt1) pt43 ?_
    refine s_val rfl (v_lenO lk43) pt44 ?_
    refine s_val rfl (v_mv lki) pt45 ?_
    refine s_nil ?_
    refine n_seq ?_
    refine w_block ?_
    refine w_loop (ι := Nat × List UInt8 × Nat) (fun (x_ : Nat × List UInt8 × Nat) => match x_ with | ⟨j, M, v⟩ => [(45, iv (j : Int)), (9, .any), (46, .any), (47, .any), (48, .any), (49, .any), (50, .any), (51, .any), (52, .any), (53, .any), (54, .any), (55, .any), (56, .any), (57, .any), (58, .any), (59, .any), (60, .any), (61, .any), (62, .any), (63, .any), (64, .any), (65, .any), (66, .any), (67, .any), (68, .any), (69, .any), (70, .any), (71, .any), (72, .any), (73, .any)]) (fun (x_ : Nat × List UInt8 × Nat) => match x_ with | ⟨j, M, v⟩ => [(1, .mk 0 96 2 [.own (N + 2) v M.length, .own (N + 3) vk (kinds t).length]), (2, .mk v 5 1 (rows u8R M))]) (fun (x_ : Nat × List UInt8 × Nat) => match x_ with | ⟨j, M, v⟩ => j ≤ (kinds t).length ∧ M = le 2 (kinds t).length ++ ((kinds t).take j).flatMap encL ∧ M.length ≤ 2 + 30 * j) (fun (x_ : Nat × List UInt8 × Nat) => match x_ with | ⟨j, M, v⟩ => (kinds t).length - j) (⟨0, le 2 (kinds t).length, 2⟩) (by exact ⟨by omega, by simp, by rw [le_len]; omega⟩) (by try simp only [setsT, setsE, List.set_cons_zero, List.set_cons_succ]; exact ALe.same (wk1 rfl (wk1 rfl (wk1 rfl (wk1 rfl (wk1 rfl (wk1 rfl (wk1 rfl (wk1 rfl (wk1 rfl (wka (wk1 rfl (wk1 rfl (wk1 rfl (wk1 rfl (wk1 rfl (wk1 rfl (wk1 rfl (wk1 rfl (wk1 rfl (wk1 rfl (wk1 rfl (wk1 rfl (wk1 rfl (wk1 rfl (wk1 rfl (wk1 rfl (wk1 rfl (wk1 rfl (wk1 rfl (wk1 rfl (wk1 rfl (wk1 rfl (wk1 rfl (wk1 rfl (wk1 rfl (wk1 rfl (wk1 rfl (wk1 rfl (wk1 rfl (wk1 rfl (wk1 rfl (wk1 rfl (wk1 rfl (wk1 rfl (wk1 rfl (wk1 (by first | rfl | exact ivx (by omega) | (simp; done)) (wka (wka (wka (wka (wka (wka (wka (wka (wka (wka (wka (wka (wka (wka (wka (wka (wka (wka (wka (wka (wka (wka (wka (wka (wka (wka (wka (wka (wk1 rfl (wk1 rfl (wk1 rfl (wk1 rfl (wk1 rfl (wk1 rfl (wk1 rfl (wk1 rfl (wk1 rfl (wk1 rfl (wk1 rfl (wk1 rfl (wk1 rfl (wk1 rfl (wk1 rfl (wk1 rfl (wk1 rfl (wk1 rfl (wk1 rfl (wk1 rfl (wk1 rfl (wk1 rfl (wk1 rfl (wk1 rfl (wk1 rfl (wk1 rfl (wk1 rfl (wk1 rfl (wk1 rfl (wk1 rfl (wk1 rfl (wk1 rfl (wk1 rfl wk0))))))))))))))))))))))))))))))))))))))))))))))))))))))))))))))))))))))))))))))))))))))))))))))))))))))))))) rfl) ?_
    rintro ⟨j, M, v⟩ hi2
    try simp only [setsT, setsE, List.set_cons_zero, List.set_cons_succ]
    obtain ⟨hj1, hj2, hj3⟩ := hi2
    refine w_seq ?_
    refine w_reg ?_
    refine s_val rfl (v_lss lk45 lk44) pt46 ?_
    refine s_nil ?_
    refine n_seq ?_
    refine w_seq ?_
    first | refine w_cond lk46 (fun hc2 => ?_) (fun hc2 => ?_) | refine w_condB lk46 (fun hc2 => ?_) (fun hc2 => ?_)
    · skip
      have hk : j < (kinds t).length := by omega
      have hok := locE_ok (hkl _ (List.getElem_mem hk))
      have hME : (M ++ encL (kinds t)[j]).length = (((M ++ le 3 ((kinds t)[j].1 + 100000)) ++ le 2 (kinds t)[j].2.1) ++ le 1 ((kinds t)[j].2.2.size : Int)).length + (kinds t)[j].2.2.data.toList.length := by simp [encL]; omega
      have hMr : rows u8R (M ++ encL (kinds t)[j]) = rows u8R (((M ++ le 3 ((kinds t)[j].1 + 100000)) ++ le 2 (kinds t)[j].2.1) ++ le 1 ((kinds t)[j].2.2.size : Int)) ++ rows u8R (kinds t)[j].2.2.data.toList := by rw [← rows_app]; simp [encL]
      have hsz : (kinds t)[j].2.2.data.toList.length = (kinds t)[j].2.2.size := by simp
      refine w_skip ?_
      refine n_seq ?_
      refine w_seq ?_
      refine w_block ?_
      refine w_seq ?_
      refine w_reg ?_
      refine s_val rfl (v_iaOR lk43 lk45 (hga hn rfl) loc_len1 (Nat.le_of_ble_eq_true rfl) (by first | rfl | omega) (by omega) (by first | rfl | (simp; done) | omega)) pt47 ?_
      refine s_val rfl (v_ldOR lk47 (hga hn rfl) loc_len1 (by omega) rfl) pt48 ?_
      refine s_eff rfl rfl (e_new (hl5 hn) ha5) pt9 ?_
      refine s_eff rfl rfl (e_store lk9 (cvl lk48 rfl) (hga hn rfl) rfl (Nat.le_of_ble_eq_true rfl) rfl WEncB_sc0_3 (hs5 hn)) ptn ?_
      refine s_nil ?_
      refine n_seq ?_
      refine w_seq ?_
      refine w_reg ?_
      refine s_val rfl (v_mv lk3) pt49 ?_
      refine s_val rfl (v_fap0 lk9) pt50 ?_
      refine s_val rfl (v_loadp lk50 (hga hn rfl) gt0) pt51 ?_
      refine s_val rfl (v_add lk51 lki (by omega) (by omega)) pt52 ?_
      refine s_call2 (mp1 lk49 (mp1 lk52 (mp1 lki mp0))) (put_a (L := M) (k := 3) (hga hn rfl) (hga hn rfl) (by omega) (by omega) (by omega) (by simp [AV.lt, hn])) (hs1 hn) (hs2 hn) pt53 ?_
      refine s_nil ?_
      refine n_seq ?_
      refine w_seq ?_
      refine w_reg ?_
      refine s_val rfl (v_mv lk3) pt54 ?_
      refine s_val rfl (v_fap0 lk9) pt55 ?_
      refine s_val rfl (v_loadp lk55 (hga hn rfl) gt1) pt56 ?_
      refine s_call2 (mp1 lk54 (mp1 lk56 (mp1 lki mp0))) (put_a (L := M ++ le 3 _) (k := 2) (hga hn rfl) (hga hn rfl) (by omega) (by omega) (by simp [le_len]; omega) (by simp [AV.lt, hn])) (hs1 hn) (hs2 hn) pt57 ?_
      refine s_nil ?_
      refine n_seq ?_
      refine w_seq ?_
      refine w_reg ?_
      refine s_val rfl (v_mv lk3) pt58 ?_
      refine s_val rfl (v_fap0 lk9) pt59 ?_
      refine s_val rfl (v_loadp lk59 (hga hn rfl) gt2) pt60 ?_
      refine s_val rfl (v_lenS lk60) pt61 ?_
      refine s_call2 (mp1 lk58 (mp1 lk61 (mp1 lki mp0))) (put_a (L := (M ++ le 3 _) ++ le 2 _) (k := 1) (hga hn rfl) (hga hn rfl) (by omega) (by omega) (by simp [le_len]; omega) (by simp [AV.lt, hn])) (hs1 hn) (hs2 hn) pt62 ?_
      refine s_nil ?_
      refine n_seq ?_
      refine w_drwE ?_
      refine d_val rfl (v_mv lk3) pt63 ?_
      refine d_val rfl (v_mv lk3) pt64 ?_
      refine d_val rfl (v_nckp lk64) pt65 ?_
      refine d_val rfl (v_fap0 lk65) pt66 ?_
      refine d_val rfl (v_loadp lk66 (hga hn rfl) gt0) pt67 ?_
      refine d_val rfl (v_fap0 lk9) pt68 ?_
      refine d_val rfl (v_loadp lk68 (hga hn rfl) gt2) pt69 ?_
      refine d_nil ?_
      refine e_nil ?_
      refine s_eff rfl rfl (e_app (sc_strR lk69) lk67 (hga hn rfl) (u8_len _) (by simp [le_len]; omega) (u8_leaf _) (hs2 hn)) (ptS pt0) ?_
      refine s_val rfl (v_nckp lk63) (ptS pt1) ?_
      refine s_val rfl (v_fap0 (lkS lk1)) (ptS pt2) ?_
      refine s_eff rfl rfl (e_store (lkS lk2) (cvl (lkS lk0) rfl) (hga hn rfl) rfl (Nat.le_of_ble_eq_true rfl) rfl WEncB_sc0_1 (hs1 hn)) ptn ?_
      refine s_nil ?_
      refine n_blk ?_
      refine n_seq ?_
      refine w_reg ?_
      refine s_val rfl (v_add lk45 lki (by omega) (by omega)) (ptS pt3) ?_
      refine s_val rfl (v_mv (lkS lk3)) pt45 ?_
      refine s_nil ?_
      refine n_thn ?_
      refine LoopTo.mk (⟨j + 1, M ++ encL (kinds t)[j], v + 3 + 2 + 1 + 1⟩) (by omega) (by (try dsimp only); refine ⟨by omega, by rw [hj2, flat_step encL hk, List.append_assoc], ?_⟩; rw [List.length_append, encL_len]; omega) (by (try dsimp only); (try simp only [setsT, setsE, List.set_cons_zero, List.set_cons_succ]); exact ALe.back (wk1 rfl (wk1 rfl (wk1 rfl (wk1 rfl (wk1 rfl (wk1 rfl (wk1 rfl (wk1 rfl (wk1 rfl (wka (wk1 rfl (wk1 rfl (wk1 rfl (wk1 rfl (wk1 rfl (wk1 rfl (wk1 rfl (wk1 rfl (wk1 rfl (wk1 rfl (wk1 rfl (wk1 rfl (wk1 rfl (wk1 rfl (wk1 rfl (wk1 rfl (wk1 rfl (wk1 rfl (wk1 rfl (wk1 rfl (wk1 rfl (wk1 rfl (wk1 rfl (wk1 rfl (wk1 rfl (wk1 rfl (wk1 rfl (wk1 rfl (wk1 rfl (wk1 rfl (wk1 rfl (wk1 rfl (wk1 rfl (wk1 rfl (wk1 rfl (wk1 (by first | rfl | exact ivx (by omega) | (simp; done)) (wka (wka (wka (wka (wka (wka (wka (wka (wka (wka (wka (wka (wka (wka (wka (wka (wka (wka (wka (wka (wka (wka (wka (wka (wka (wka (wka (wka (wk1 rfl (wk1 rfl (wk1 rfl (wk1 rfl (wk1 rfl (wk1 rfl (wk1 rfl (wk1 rfl (wk1 rfl (wk1 rfl (wk1 rfl (wk1 rfl (wk1 rfl (wk1 rfl (wk1 rfl (wk1 rfl (wk1 rfl (wk1 rfl (wk1 rfl (wk1 rfl (wk1 rfl (wk1 rfl (wk1 rfl (wk1 rfl (wk1 rfl (wk1 rfl (wk1 rfl (wk1 rfl (wk1 rfl (wk1 rfl (wk1 rfl (wk1 rfl (wk1 rfl wk0))))))))))))))))))))))))))))))))))))))))))))))))))))))))))))))))))))))))))))))))))))))))))))))))))))))))))) (by rw [hME, hMr]; rfl) (k := N + 5) (by simp only [List.length_cons, List.length_nil, hn]) (by omega) (by first | rfl | (simp only [AV.lt, AV.ltL, Ent.lt, List.all_cons, List.all_nil, Bool.and_true, Bool.and_self, decide_true, chg_lt, u8_lt, loc_lt, in_lt, ltL_app]; done) | (simp [AV.lt, AV.ltL, Ent.lt, chg_lt, u8_lt, loc_lt, in_lt, ltL_app, *]; done) | (simp [AV.lt, AV.ltL, Ent.lt, chg_lt, u8_lt, loc_lt, in_lt, ltL_app, *]; omega)) (ltw (by omega) hlt) (by first | rfl | (simp only [AV.lt, AV.ltL, Ent.lt, List.all_cons, List.all_nil, Bool.and_true, Bool.and_self, decide_true, chg_lt, u8_lt, loc_lt, in_lt, ltL_app]; done) | (simp [AV.lt, AV.ltL, Ent.lt, chg_lt, u8_lt, loc_lt, in_lt, ltL_app, *]; done) | (simp [AV.lt, AV.ltL, Ent.lt, chg_lt, u8_lt, loc_lt, in_lt, ltL_app, *]; omega)))
    · skip
      have hjl : j = (kinds t).length := by omega
      rw [hjl, List.take_length] at hj2
      refine w_exit ?_
      refine x_thn ?_
      refine x_thn ?_
      refine x_blk ?_
      refine n_seq ?_
      refine w_seq ?_
      refine w_reg ?_
      refine s_val rfl (v_mv lk3) (ptS pt4) ?_
      refine s_val rfl (v_mv lk4) (ptS pt5) ?_
      refine s_call2 (mp1 (lkS lk4) (mp1 (lkS lk5) (mp1 lki mp0))) (put_a (L := M) (k := 2) (hga hn rfl) (hga hn rfl) (by omega) (by omega) (by omega) (by simp [AV.lt, hn])) (hs1 hn) (hs2 hn) (ptS pt6) ?_
      refine s_nil ?_
      refine n_seq ?_
      refine w_seq ?_
      refine w_reg ?_
      refine s_val rfl (v_mv lk3) (ptS pt7) ?_
      refine s_val rfl (v_fap0 lk1) (ptS pt8) ?_
      refine s_val rfl (v_loadp (lkS lk8) (hga hn rfl) gt3) (ptS pt9) ?_
      refine s_val rfl (v_lenL (lkS lk9)) (ptS pt10) ?_
      refine s_call2 (mp1 (lkS lk7) (mp1 (lkS lk10) (mp1 lki mp0))) (put_a (L := M ++ le 2 _) (k := 2) (hga hn rfl) (hga hn rfl) (by omega) (by omega) (by simp [le_len]; omega) (by simp [AV.lt, hn])) (hs1 hn) (hs2 hn) (ptS pt11) ?_
      refine s_nil ?_
      refine n_seq ?_
      refine w_seq ?_
      refine w_seq ?_
      refine w_reg ?_
      refine s_val rfl (v_fap0 lk1) (ptS pt12) ?_
      refine s_val rfl (v_loadp (lkS lk12) (hga hn rfl) gt3) (ptS pt13) ?_
      refine s_val rfl (v_lenL (lkS lk13)) (ptS pt14) ?_
      refine s_val rfl (v_mv lki) (ptS pt15) ?_
      refine s_nil ?_
      refine n_seq ?_
      refine w_block ?_
      refine w_loop (ι := Nat × List UInt8 × Nat) (fun (x_ : Nat × List UInt8 × Nat) => match x_ with | ⟨i, P, w⟩ => [(85, iv (i : Int)), (10, .any), (11, .any), (86, .any), (87, .any), (88, .any), (89, .any), (90, .any), (91, .any), (92, .any), (93, .any), (94, .any), (95, .any), (96, .any), (97, .any), (98, .any), (99, .any), (100, .any), (101, .any)]) (fun (x_ : Nat × List UInt8 × Nat) => match x_ with | ⟨i, P, w⟩ => [(1, .mk 0 96 2 [.own (N + 2) w P.length, .own (N + 3) vk (kinds t).length]), (2, .mk w 5 1 (rows u8R P))]) (fun (x_ : Nat × List UInt8 × Nat) => match x_ with | ⟨i, P, w⟩ => i ≤ t.2.length ∧ P = M ++ (le 2 0 ++ (le 2 t.2.length ++ ((t.2.zip (kindI t)).take i).flatMap encC))) (fun (x_ : Nat × List UInt8 × Nat) => match x_ with | ⟨i, P, w⟩ => t.2.length - i) (⟨0, (M ++ le 2 0) ++ le 2 t.2.length, v + 2 + 2⟩) (by exact ⟨by omega, by simp⟩) (by try simp only [setsT, setsE, List.set_cons_zero, List.set_cons_succ]; exact ALe.same (wk1 rfl (wk1 rfl (wk1 rfl (wk1 rfl (wk1 rfl (wk1 rfl (wk1 rfl (wk1 rfl (wk1 rfl (wk1 rfl (wka (wka (wk1 rfl (wk1 rfl (wk1 rfl (wk1 rfl (wk1 rfl (wk1 rfl (wk1 rfl (wk1 rfl (wk1 rfl (wk1 rfl (wk1 rfl (wk1 rfl (wk1 rfl (wk1 rfl (wk1 rfl (wk1 rfl (wk1 rfl (wk1 rfl (wk1 rfl (wk1 rfl (wk1 rfl (wk1 rfl (wk1 rfl (wk1 rfl (wk1 rfl (wk1 rfl (wk1 rfl (wk1 rfl (wk1 rfl (wk1 rfl (wk1 rfl (wk1 rfl (wk1 rfl (wk1 rfl (wk1 rfl (wk1 rfl (wk1 rfl (wk1 rfl (wk1 rfl (wk1 rfl (wk1 rfl (wk1 rfl (wk1 rfl (wk1 rfl (wk1 rfl (wk1 rfl (wk1 rfl (wk1 rfl (wk1 rfl (wk1 rfl (wk1 rfl (wk1 rfl (wk1 rfl (wk1 rfl (wk1 rfl (wk1 rfl (wk1 rfl (wk1 rfl (wk1 rfl (wk1 rfl (wk1 rfl (wk1 rfl (wk1 rfl (wk1 rfl (wk1 rfl (wk1 rfl (wk1 rfl (wk1 rfl (wk1 rfl (wk1 rfl (wk1 rfl (wk1 rfl (wk1 rfl (wk1 (by first | rfl | exact ivx (by omega) | (simp; done)) (wka (wka (wka (wka (wka (wka (wka (wka (wka (wka (wka (wka (wka (wka (wka (wka (wk1 rfl (wk1 rfl (wk1 rfl (wk1 rfl (wk1 rfl wk0))))))))))))))))))))))))))))))))))))))))))))))))))))))))))))))))))))))))))))))))))))))))))))))))))))))))))) rfl) ?_
      rintro ⟨i, P, w⟩ hi3
      try simp only [setsT, setsE, List.set_cons_zero, List.set_cons_succ]
      obtain ⟨hp1, hp2⟩ := hi3
      have hpl : P.length ≤ 32000 + 7 * i := by rw [hp2]; simp only [List.length_append, le_len, zip_len hp1 hIl]; omega
      refine w_seq ?_
      refine w_reg ?_
      refine s_val rfl (v_lss (lkS lk15) (lkS lk14)) (ptS pt16) ?_
      refine s_nil ?_
      refine n_seq ?_
      refine w_seq ?_
      first | refine w_cond (lkS lk16) (fun hc3 => ?_) (fun hc3 => ?_) | refine w_condB (lkS lk16) (fun hc3 => ?_) (fun hc3 => ?_)
      · skip
        have hk : i < t.2.length := by omega
        have hok := timeB_iff.1 (hv3 _ (List.getElem_mem hk)).1
        refine w_skip ?_
        refine n_seq ?_
        refine w_seq ?_
        refine w_block ?_
        refine w_seq ?_
        refine w_reg ?_
        refine s_val rfl (v_mv (lkS lk15)) (ptS pt17) ?_
        refine s_val rfl (v_iaR (lkS lk13) (lkS lk15) chg_len1 (Nat.le_of_ble_eq_true rfl) (by first | rfl | omega) (by omega) (by first | rfl | omega) rfl) (ptS pt18) ?_
        refine s_val rfl (v_loadrA (lkS lk18) WEncB_tk_4 rfl) (ptS pt19) ?_
        refine s_eff rfl rfl (e_new (hl5 hn) ha5) pt11 ?_
        refine s_val rfl (v_mv (lkS lk17)) pt10 ?_
        refine s_eff rfl rfl (e_store lk11 (cvl (lkS lk19) rfl) (hga hn rfl) rfl (Nat.le_of_ble_eq_true rfl) rfl WEncB_sc0_4 (hs5 hn)) ptn ?_
        refine s_nil ?_
        refine n_seq ?_
        refine w_seq ?_
        refine w_reg ?_
        refine s_val rfl (v_mv lk3) (ptS pt20) ?_
        refine s_val rfl (v_fap0 lk11) (ptS pt21) ?_
        refine s_val rfl (v_loadp (lkS lk21) (hga hn rfl) gt0) (ptS pt22) ?_
        refine s_val rfl (v_add (lkS lk22) lki (by omega) (by omega)) (ptS pt23) ?_
        refine s_call2 (mp1 (lkS lk20) (mp1 (lkS lk23) (mp1 lki mp0))) (put_a (L := P) (k := 5) (hga hn rfl) (hga hn rfl) (by omega) (by omega) (by omega) (by simp [AV.lt, hn])) (hs1 hn) (hs2 hn) (ptS pt24) ?_
        refine s_nil ?_
        refine n_seq ?_
        refine w_reg ?_
        refine s_val rfl (v_mv lk3) (ptS pt25) ?_
        refine s_val rfl (v_mv lk5) (ptS pt26) ?_
        refine s_val rfl (v_mv lk10) (ptS pt27) ?_
        refine s_val rfl (v_iaOR (lkS lk26) (lkS lk27) (hga hn rfl) in_len1 (Nat.le_of_ble_eq_true rfl) (by first | rfl | omega) (by omega) (by first | rfl | (simp; done) | omega)) (ptS pt28) ?_
        refine s_val rfl (v_ldOR1 (lkS lk28) (hga hn rfl) in_len1 (by omega) rfl) (ptS pt29) ?_
        refine s_call2 (mp1 (lkS lk25) (mp1 (lkS lk29) (mp1 lki mp0))) (put_a (L := P ++ le 5 _) (k := 2) (hga hn rfl) (hga hn rfl) (by omega) (by omega) (by simp [le_len]; omega) (by simp [AV.lt, hn])) (hs1 hn) (hs2 hn) (ptS pt30) ?_
        refine s_nil ?_
        refine n_blk ?_
        refine n_seq ?_
        refine w_reg ?_
        refine s_val rfl (v_add (lkS lk15) lki (by omega) (by omega)) (ptS pt31) ?_
        refine s_val rfl (v_mv (lkS lk31)) (ptS pt15) ?_
        refine s_nil ?_
        refine n_thn ?_
        refine LoopTo.mk (⟨i + 1, P ++ encC (t.2[i], (kindI t)[i]'(by omega)), w + 5 + 2⟩) (by omega) (by (try dsimp only); exact ⟨by omega, by rw [hp2, zip_step hk hIl]; simp⟩) (by (try dsimp only); (try simp only [setsT, setsE, List.set_cons_zero, List.set_cons_succ]); exact ALe.back (wk1 rfl (wk1 rfl (wk1 rfl (wk1 rfl (wk1 rfl (wk1 rfl (wk1 rfl (wk1 rfl (wk1 rfl (wk1 rfl (wka (wka (wk1 rfl (wk1 rfl (wk1 rfl (wk1 rfl (wk1 rfl (wk1 rfl (wk1 rfl (wk1 rfl (wk1 rfl (wk1 rfl (wk1 rfl (wk1 rfl (wk1 rfl (wk1 rfl (wk1 rfl (wk1 rfl (wk1 rfl (wk1 rfl (wk1 rfl (wk1 rfl (wk1 rfl (wk1 rfl (wk1 rfl (wk1 rfl (wk1 rfl (wk1 rfl (wk1 rfl (wk1 rfl (wk1 rfl (wk1 rfl (wk1 rfl (wk1 rfl (wk1 rfl (wk1 rfl (wk1 rfl (wk1 rfl (wk1 rfl (wk1 rfl (wk1 rfl (wk1 rfl (wk1 rfl (wk1 rfl (wk1 rfl (wk1 rfl (wk1 rfl (wk1 rfl (wk1 rfl (wk1 rfl (wk1 rfl (wk1 rfl (wk1 rfl (wk1 rfl (wk1 rfl (wk1 rfl (wk1 rfl (wk1 rfl (wk1 rfl (wk1 rfl (wk1 rfl (wk1 rfl (wk1 rfl (wk1 rfl (wk1 rfl (wk1 rfl (wk1 rfl (wk1 rfl (wk1 rfl (wk1 rfl (wk1 rfl (wk1 rfl (wk1 rfl (wk1 rfl (wk1 rfl (wk1 (by first | rfl | exact ivx (by omega) | (simp; done)) (wka (wka (wka (wka (wka (wka (wka (wka (wka (wka (wka (wka (wka (wka (wka (wka (wk1 rfl (wk1 rfl (wk1 rfl (wk1 rfl (wk1 rfl wk0))))))))))))))))))))))))))))))))))))))))))))))))))))))))))))))))))))))))))))))))))))))))))))))))))))))))))) (by rw [show P ++ encC (t.2[i], (kindI t)[i]'(by omega)) = (P ++ le 5 (t.2[i].1 + 274877906944)) ++ le 2 (((kindI t)[i]'(by omega) : Nat) : Int) from by simp [encC]]; rfl) (k := N + 5) (by simp only [List.length_cons, List.length_nil, hn]) (by omega) (by first | rfl | (simp only [AV.lt, AV.ltL, Ent.lt, List.all_cons, List.all_nil, Bool.and_true, Bool.and_self, decide_true, chg_lt, u8_lt, loc_lt, in_lt, ltL_app]; done) | (simp [AV.lt, AV.ltL, Ent.lt, chg_lt, u8_lt, loc_lt, in_lt, ltL_app, *]; done) | (simp [AV.lt, AV.ltL, Ent.lt, chg_lt, u8_lt, loc_lt, in_lt, ltL_app, *]; omega)) (ltw (by omega) hlt) (by first | rfl | (simp only [AV.lt, AV.ltL, Ent.lt, List.all_cons, List.all_nil, Bool.and_true, Bool.and_self, decide_true, chg_lt, u8_lt, loc_lt, in_lt, ltL_app]; done) | (simp [AV.lt, AV.ltL, Ent.lt, chg_lt, u8_lt, loc_lt, in_lt, ltL_app, *]; done) | (simp [AV.lt, AV.ltL, Ent.lt, chg_lt, u8_lt, loc_lt, in_lt, ltL_app, *]; omega)))
      · skip
        refine w_exit ?_
        refine x_thn ?_
        refine x_thn ?_
        refine x_blk ?_
        refine n_seq ?_
        refine w_seq ?_
        refine w_reg ?_
        refine s_val rfl (v_mv lk3) (ptS pt32) ?_
        refine s_val rfl (v_nckp (lkS lk32)) (ptS pt33) ?_
        refine s_val rfl (v_fap0 (lkS lk33)) (ptS pt34) ?_
        refine s_val rfl (v_loadp (lkS lk34) (hga hn rfl) gt0) (ptS pt35) ?_
        refine s_val rfl (v_b2sO (lkS lk35) (hga hn rfl) (by first | rfl | omega)) (ptS pt36) ?_
        refine s_val rfl (v_mv (lkS lk36)) pt2 ?_
        refine s_nil ?_
        refine n_seq ?_
        refine w_rets ?_
        refine w_ret (rs1 (rr_t gt2)) ?_
        refine rt (by first | rfl | (simp only [AV.lt, AV.ltL, Ent.lt, List.all_cons, List.all_nil, Bool.and_true, Bool.and_self, decide_true, chg_lt, u8_lt, loc_lt, in_lt, ltL_app]; done) | (simp [AV.lt, AV.ltL, Ent.lt, chg_lt, u8_lt, loc_lt, in_lt, ltL_app, *]; done) | (simp [AV.lt, AV.ltL, Ent.lt, chg_lt, u8_lt, loc_lt, in_lt, ltL_app, *]; omega)) ?_
        have hil : i = t.2.length := by omega
        rw [hp2, hj2, hil]
        rw [List.take_of_length_le (by rw [List.length_zip]; omega)]
        simp [enc]
theorem encode_a {t : Tab} {full : Bool} {h : AH} (ht : okT t) :
    ACalls Try.prog 21 [.agg [iv t.1.1, iv t.1.2.1, sv t.1.2.2, .sl t.2.length 4 full (rows chgC t.2)]] h fun x h' => h' = h ∧ x = .ret (.tup [sv (if checkT t = 0 then ⟨(enc t).toArray⟩ else ⟨#[]⟩), iv (checkT t)]) := by
  refine i21 ?_
  intro N hn hlt hlA hbd
  try simp only [AV.bdL, AV.bd, and_true, true_and] at hbd
  refine w_seq ?_
  refine w_reg ?_
  refine s_eff rfl rfl (e_box (cvl lk0 rfl) rfl (hl0 hn) ha0) pt1 ?_
  refine s_val rfl (v_mv lks) pt2 ?_
  refine s_val rfl (v_mv lki) pt3 ?_
  refine s_nil ?_
  refine n_seq ?_
  refine w_seq ?_
  refine w_seq ?_
  refine w_reg ?_
  refine s_val rfl (v_loadpA lk1 (hga hn rfl) WEncB_tk0_4 rfl) pt5 ?_
  refine s_callp (mp1 lk5 mp0) (check_a (l := t.2) ht.1 ht.2) pt6 ?_
  refine s_val rfl (v_mv lk6) pt4 ?_
  refine s_nil ?_
  refine n_seq ?_
  refine w_seq ?_
  refine w_reg ?_
  refine s_val rfl (v_mv lk4) pt7 ?_
  refine s_val rfl (v_neq lk7 lki) pt8 ?_
  refine s_nil ?_
  refine n_seq ?_
  first | refine w_cond lk8 (fun hc1 => ?_) (fun hc1 => ?_) | refine w_condB lk8 (fun hc1 => ?_) (fun hc1 => ?_)
  · skip
    refine w_seq ?_
    refine w_reg ?_
    refine s_val rfl (v_mv lk4) pt9 ?_
    refine s_val rfl (v_mv lks) pt2 ?_
    refine s_val rfl (v_mv lk9) pt3 ?_
    refine s_nil ?_
    refine n_seq ?_
    refine w_rets ?_
    refine r_thn ?_
    refine w_ret (rsn (rm1 (rr_t gt2) (rm1 (rr_t gt3) rm0))) ?_
    refine rt (by first | rfl | (simp only [AV.lt, AV.ltL, Ent.lt, List.all_cons, List.all_nil, Bool.and_true, Bool.and_self, decide_true, chg_lt, u8_lt, loc_lt, in_lt, ltL_app]; done) | (simp [AV.lt, AV.ltL, Ent.lt, chg_lt, u8_lt, loc_lt, in_lt, ltL_app, *]; done) | (simp [AV.lt, AV.ltL, Ent.lt, chg_lt, u8_lt, loc_lt, in_lt, ltL_app, *]; omega)) ?_
    have e : checkT t ≠ 0 := hc1
    rw [if_neg e]
  · skip
    refine w_skip ?_
    refine n_seq ?_
    refine w_seq ?_
    refine w_reg ?_
    refine s_val rfl (v_loadpA lk1 (hga hn rfl) WEncB_tk0_4 rfl) pt10 ?_
    refine s_callp (mp1 lk10 mp0) (bytes_a (t := t) ht (Decidable.of_not_not hc1)) pt11 ?_
    refine s_val rfl (v_mv lk11) pt2 ?_
    refine s_val rfl (v_mv lki) pt3 ?_
    refine s_nil ?_
    refine n_seq ?_
    refine w_rets ?_
    refine w_ret (rsn (rm1 (rr_t gt2) (rm1 (rr_t gt3) rm0))) ?_
    refine rt (by first | rfl | (simp only [AV.lt, AV.ltL, Ent.lt, List.all_cons, List.all_nil, Bool.and_true, Bool.and_self, decide_true, chg_lt, u8_lt, loc_lt, in_lt, ltL_app]; done) | (simp [AV.lt, AV.ltL, Ent.lt, chg_lt, u8_lt, loc_lt, in_lt, ltL_app, *]; done) | (simp [AV.lt, AV.ltL, Ent.lt, chg_lt, u8_lt, loc_lt, in_lt, ltL_app, *]; omega)) ?_
    have e : checkT t = 0 := Decidable.of_not_not hc1
    rw [if_pos e, e]
end Go.Proofs.Ytmbebimingkfeaa
