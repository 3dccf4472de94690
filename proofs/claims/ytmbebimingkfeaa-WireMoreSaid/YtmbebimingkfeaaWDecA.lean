/-
  Contracts on plain data: the reader's take, number, local and times. Conditions: those that each theorem names.
-/
import Derived.Test.YtmbebimingkfeaaWEncA
set_option linter.unusedVariables false
set_option linter.unusedSimpArgs false
set_option maxRecDepth 100000
namespace Go.Proofs.Ytmbebimingkfeaa
open Go.Ab Civ
section
theorem WDecA_sc0_1 {a0 c0 : AV} {l : List AV} : setCells (a0 :: l) 0 [c0] = c0 :: l := rfl
theorem WDecA_sc1_1 {a0 a1 c0 : AV} {l : List AV} : setCells (a0 :: a1 :: l) 1 [c0] = a0 :: c0 :: l := rfl
theorem WDecA_local_16 {τ : Operand → AV} : fillAV τ [] [(.v (.int .i64 0)), (.v (.int .i64 0)), (.v (.string ⟨#[]⟩))] = some [(.v (.int .i64 0)), (.v (.int .i64 0)), (.v (.string ⟨#[]⟩))] := rfl
theorem WDecA_sc0_3 {a0 a1 a2 c0 c1 c2 : AV} {l : List AV} : setCells (a0 :: a1 :: a2 :: l) 0 [c0, c1, c2] = c0 :: c1 :: c2 :: l := rfl
theorem WDecA_tk0_3 {a0 a1 a2 : AV} {l : List AV} : ((a0 :: a1 :: a2 :: l).drop 0).take 3 = [a0, a1, a2] := rfl
theorem WDecA_tk_3 {a0 a1 a2 : AV} {l : List AV} : (a0 :: a1 :: a2 :: l).take 3 = [a0, a1, a2] := rfl
end
/-- (*wire.reader).take -/
def c44 : AC := (.seq (.reg [⟨(some 4), none, (.mv (.const (.string ⟨#[]⟩)))⟩]) (.seq (.seq (.reg [⟨(some 6), none, (.mv (.tmp 0))⟩, ⟨(some 7), none, (.nck (.tmp 6))⟩, ⟨(some 8), none, (.fa 0 (.tmp 7))⟩, ⟨(some 9), none, (.load false 1 (.tmp 8))⟩, ⟨(some 10), none, (.len true (.tmp 9))⟩, ⟨(some 11), none, (.mv (.tmp 1))⟩, ⟨(some 12), none, (.bin .lss (.tmp 10) (.tmp 11))⟩]) (.cond (.tmp 12) (.seq (.reg [⟨(some 13), none, (.mv (.tmp 0))⟩, ⟨(some 14), none, (.mv (.tmp 0))⟩, ⟨(some 15), none, (.nck (.tmp 13))⟩, ⟨(some 16), none, (.fa 0 (.tmp 15))⟩, ⟨none, none, (.store 1 (.tmp 16) (.const (.string ⟨#[]⟩)))⟩, ⟨(some 17), none, (.nck (.tmp 14))⟩, ⟨(some 18), none, (.fa 1 (.tmp 17))⟩, ⟨none, none, (.store 1 (.tmp 18) (.const (.bool true)))⟩]) (.seq (.reg [⟨(some 4), none, (.mv (.const (.string ⟨#[]⟩)))⟩]) .ret)) .skip)) (.seq (.reg [⟨(some 19), none, (.mv (.tmp 0))⟩, ⟨(some 20), none, (.nck (.tmp 19))⟩, ⟨(some 21), none, (.fa 0 (.tmp 20))⟩, ⟨(some 22), none, (.load false 1 (.tmp 21))⟩, ⟨(some 23), none, (.mv (.tmp 1))⟩, ⟨(some 24), none, (.sls (.tmp 22) none (some (.tmp 23)))⟩, ⟨(some 5), none, (.mv (.tmp 24))⟩]) (.seq (.reg [⟨(some 25), none, (.mv (.tmp 0))⟩, ⟨(some 26), none, (.mv (.tmp 0))⟩, ⟨(some 27), none, (.nck (.tmp 26))⟩, ⟨(some 28), none, (.fa 0 (.tmp 27))⟩, ⟨(some 29), none, (.load false 1 (.tmp 28))⟩, ⟨(some 30), none, (.mv (.tmp 1))⟩, ⟨(some 31), none, (.sls (.tmp 29) (some (.tmp 30)) none)⟩, ⟨(some 32), none, (.nck (.tmp 25))⟩, ⟨(some 33), none, (.fa 0 (.tmp 32))⟩, ⟨none, none, (.store 1 (.tmp 33) (.tmp 31))⟩]) (.seq (.reg [⟨(some 34), none, (.mv (.tmp 5))⟩, ⟨(some 4), none, (.mv (.tmp 34))⟩]) .ret)))))
theorem k44 : compF Try.prog 44 = some ⟨c44, [(.tmp 4)], 35⟩ := by kernel_rfl
theorem i44 {a0 a1 : AV} {h : AH} {R : AE → Prop} (hw : ∀ n, h.length = n → (∀ e ∈ h, e.lt n = true) → AV.ltL n [a0, a1] = true → AV.bdL [a0, a1] → aw Try.prog n c44 (retA [(.tmp 4)] fun x h' => ∃ z, h' = h ++ z ∧ x.lt n = true ∧ R x) [a0, a1, .any, .any, .any, .any, .any, .any, .any, .any, .any, .any, .any, .any, .any, .any, .any, .any, .any, .any, .any, .any, .any, .any, .any, .any, .any, .any, .any, .any, .any, .any, .any, .any, .any] (h ++ [])) : ACalls Try.prog 44 [a0, a1] h fun x h' => h' = h ∧ R x := ACalls.into k44 rfl hw
theorem w44 {a0 a1 : AV} {h : AH} {res : AV} (hw : ∀ n, h.length = n → (∀ e ∈ h, e.lt n = true) → AV.ltL n [a0, a1] = true → AV.bdL [a0, a1] → aw Try.prog n c44 (retA [(.tmp 4)] fun x h' => ∃ z, h' = h ++ z ∧ x.lt n = true ∧ ∃ c, x = .ret c ∧ Wk c res) [a0, a1, .any, .any, .any, .any, .any, .any, .any, .any, .any, .any, .any, .any, .any, .any, .any, .any, .any, .any, .any, .any, .any, .any, .any, .any, .any, .any, .any, .any, .any, .any, .any, .any, .any] (h ++ [])) : ACalls Try.prog 44 [a0, a1] h fun x h' => h' = h ∧ x = .ret res := ACalls.weak (ACalls.into k44 rfl hw)
theorem n44 {a0 a1 : AV} {h : AH} {R : AE → AH → Prop} (hw : ∀ n, h.length = n → (∀ e ∈ h, e.lt n = true) → AV.ltL n [a0, a1] = true → AV.bdL [a0, a1] → aw Try.prog n c44 (retA [(.tmp 4)] R) [a0, a1, .any, .any, .any, .any, .any, .any, .any, .any, .any, .any, .any, .any, .any, .any, .any, .any, .any, .any, .any, .any, .any, .any, .any, .any, .any, .any, .any, .any, .any, .any, .any, .any, .any] (h ++ [])) : ACalls Try.prog 44 [a0, a1] h R := ACalls.intoN k44 rfl hw
theorem j44 {a0 a1 : AV} {h : AH} {R : AE → AH → Prop} (hw : ∀ n, h.length = n → (∀ e ∈ h, e.lt n = true) → AV.ltL n [a0, a1] = true → AV.bdL [a0, a1] → aw Try.prog n c44 (retA [(.tmp 4)] fun x h' => ∃ y z, h' = y ++ z ∧ y.length = n ∧ (∀ e ∈ y, e.lt n = true) ∧ x.lt n = true ∧ R x y) [a0, a1, .any, .any, .any, .any, .any, .any, .any, .any, .any, .any, .any, .any, .any, .any, .any, .any, .any, .any, .any, .any, .any, .any, .any, .any, .any, .any, .any, .any, .any, .any, .any, .any, .any] (h ++ [])) : ACalls Try.prog 44 [a0, a1] h R := ACalls.intoG k44 rfl hw
/-- (*wire.reader).number -/
def c42 : AC := (.seq (.reg [⟨(some 4), none, (.mv (.const (.int .i64 0)))⟩]) (.seq (.reg [⟨(some 8), none, (.mv (.tmp 0))⟩, ⟨(some 9), none, (.mv (.tmp 1))⟩, ⟨(some 10), none, (.call (.func 44) [(.tmp 8), (.tmp 9)])⟩, ⟨(some 5), none, (.mv (.tmp 10))⟩]) (.seq (.reg [⟨(some 6), none, (.mv (.const (.int .i64 0)))⟩]) (.seq (.seq (.reg [⟨(some 11), none, (.mv (.tmp 5))⟩, ⟨(some 12), none, (.len true (.tmp 11))⟩, ⟨(some 13), none, (.bin .sub (.tmp 12) (.const (.int .i64 1)))⟩, ⟨(some 7), none, (.mv (.tmp 13))⟩]) (.block 0 (.loop (.seq (.seq (.reg [⟨(some 14), none, (.mv (.tmp 7))⟩, ⟨(some 15), none, (.bin .geq (.tmp 14) (.const (.int .i64 0)))⟩]) (.cond (.tmp 15) .skip (.exit 0))) (.seq (.block 1 (.reg [⟨(some 18), none, (.mv (.tmp 6))⟩, ⟨(some 19), none, (.bin .shl (.tmp 18) (.const (.int .u64 8)))⟩, ⟨(some 20), none, (.mv (.tmp 5))⟩, ⟨(some 21), none, (.mv (.tmp 7))⟩, ⟨(some 22), none, (.ix (.tmp 20) (.tmp 21))⟩, ⟨(some 23), none, (.cvi .i64 (.tmp 22))⟩, ⟨(some 24), none, (.bin .or (.tmp 19) (.tmp 23))⟩, ⟨(some 6), none, (.mv (.tmp 24))⟩])) (.reg [⟨(some 16), none, (.mv (.tmp 7))⟩, ⟨(some 17), none, (.bin .sub (.tmp 16) (.const (.int .i64 1)))⟩, ⟨(some 7), none, (.mv (.tmp 17))⟩])))))) (.seq (.reg [⟨(some 25), none, (.mv (.tmp 6))⟩, ⟨(some 4), none, (.mv (.tmp 25))⟩]) .ret)))))
theorem k42 : compF Try.prog 42 = some ⟨c42, [(.tmp 4)], 26⟩ := by kernel_rfl
theorem i42 {a0 a1 : AV} {h : AH} {R : AE → Prop} (hw : ∀ n, h.length = n → (∀ e ∈ h, e.lt n = true) → AV.ltL n [a0, a1] = true → AV.bdL [a0, a1] → aw Try.prog n c42 (retA [(.tmp 4)] fun x h' => ∃ z, h' = h ++ z ∧ x.lt n = true ∧ R x) [a0, a1, .any, .any, .any, .any, .any, .any, .any, .any, .any, .any, .any, .any, .any, .any, .any, .any, .any, .any, .any, .any, .any, .any, .any, .any] (h ++ [])) : ACalls Try.prog 42 [a0, a1] h fun x h' => h' = h ∧ R x := ACalls.into k42 rfl hw
theorem w42 {a0 a1 : AV} {h : AH} {res : AV} (hw : ∀ n, h.length = n → (∀ e ∈ h, e.lt n = true) → AV.ltL n [a0, a1] = true → AV.bdL [a0, a1] → aw Try.prog n c42 (retA [(.tmp 4)] fun x h' => ∃ z, h' = h ++ z ∧ x.lt n = true ∧ ∃ c, x = .ret c ∧ Wk c res) [a0, a1, .any, .any, .any, .any, .any, .any, .any, .any, .any, .any, .any, .any, .any, .any, .any, .any, .any, .any, .any, .any, .any, .any, .any, .any] (h ++ [])) : ACalls Try.prog 42 [a0, a1] h fun x h' => h' = h ∧ x = .ret res := ACalls.weak (ACalls.into k42 rfl hw)
theorem n42 {a0 a1 : AV} {h : AH} {R : AE → AH → Prop} (hw : ∀ n, h.length = n → (∀ e ∈ h, e.lt n = true) → AV.ltL n [a0, a1] = true → AV.bdL [a0, a1] → aw Try.prog n c42 (retA [(.tmp 4)] R) [a0, a1, .any, .any, .any, .any, .any, .any, .any, .any, .any, .any, .any, .any, .any, .any, .any, .any, .any, .any, .any, .any, .any, .any, .any, .any] (h ++ [])) : ACalls Try.prog 42 [a0, a1] h R := ACalls.intoN k42 rfl hw
theorem j42 {a0 a1 : AV} {h : AH} {R : AE → AH → Prop} (hw : ∀ n, h.length = n → (∀ e ∈ h, e.lt n = true) → AV.ltL n [a0, a1] = true → AV.bdL [a0, a1] → aw Try.prog n c42 (retA [(.tmp 4)] fun x h' => ∃ y z, h' = y ++ z ∧ y.length = n ∧ (∀ e ∈ y, e.lt n = true) ∧ x.lt n = true ∧ R x y) [a0, a1, .any, .any, .any, .any, .any, .any, .any, .any, .any, .any, .any, .any, .any, .any, .any, .any, .any, .any, .any, .any, .any, .any, .any, .any] (h ++ [])) : ACalls Try.prog 42 [a0, a1] h R := ACalls.intoG k42 rfl hw
/-- (*wire.reader).local -/
def c45 : AC := (.seq (.reg [⟨(some 2), none, (.new 23 3 [(.v (.int .i64 0)), (.v (.int .i64 0)), (.v (.string ⟨#[]⟩))])⟩]) (.seq (.reg [⟨(some 4), none, (.mv (.tmp 0))⟩, ⟨(some 5), none, (.call (.func 42) [(.tmp 4), (.const (.int .i64 2))])⟩, ⟨(some 3), none, (.mv (.tmp 5))⟩]) (.seq (.seq (.reg [⟨(some 6), none, (.mv (.tmp 3))⟩, ⟨(some 7), none, (.mv (.tmp 0))⟩, ⟨(some 8), none, (.nck (.tmp 7))⟩, ⟨(some 9), none, (.fa 2 (.tmp 8))⟩, ⟨(some 10), none, (.load false 1 (.tmp 9))⟩, ⟨(some 11), none, (.len false (.tmp 10))⟩, ⟨(some 12), none, (.bin .geq (.tmp 6) (.tmp 11))⟩]) (.cond (.tmp 12) (.seq (.reg [⟨(some 13), none, (.mv (.tmp 0))⟩, ⟨(some 14), none, (.nck (.tmp 13))⟩, ⟨(some 15), none, (.fa 1 (.tmp 14))⟩, ⟨none, none, (.store 1 (.tmp 15) (.const (.bool true)))⟩]) (.seq (.reg [⟨(some 16), none, (.build [(.v (.int .i64 0)), (.v (.int .i64 0)), (.v (.string ⟨#[]⟩))] [])⟩, ⟨none, none, (.store 3 (.tmp 2) (.tmp 16))⟩]) .ret)) .skip)) (.seq (.reg [⟨(some 17), none, (.mv (.tmp 0))⟩, ⟨(some 18), none, (.nck (.tmp 17))⟩, ⟨(some 19), none, (.fa 2 (.tmp 18))⟩, ⟨(some 20), none, (.load false 1 (.tmp 19))⟩, ⟨(some 21), none, (.mv (.tmp 3))⟩, ⟨(some 22), none, (.ia 3 (.tmp 20) (.tmp 21))⟩, ⟨(some 23), none, (.load true 3 (.tmp 22))⟩, ⟨none, none, (.store 3 (.tmp 2) (.tmp 23))⟩]) .ret))))
theorem k45 : compF Try.prog 45 = some ⟨c45, [(.cell 2 true 3)], 24⟩ := by kernel_rfl
theorem i45 {a0 : AV} {h : AH} {R : AE → Prop} (hw : ∀ n, h.length = n → (∀ e ∈ h, e.lt n = true) → AV.ltL n [a0] = true → AV.bdL [a0] → aw Try.prog n c45 (retA [(.cell 2 true 3)] fun x h' => ∃ z, h' = h ++ z ∧ x.lt n = true ∧ R x) [a0, .any, .any, .any, .any, .any, .any, .any, .any, .any, .any, .any, .any, .any, .any, .any, .any, .any, .any, .any, .any, .any, .any, .any] (h ++ [])) : ACalls Try.prog 45 [a0] h fun x h' => h' = h ∧ R x := ACalls.into k45 rfl hw
theorem w45 {a0 : AV} {h : AH} {res : AV} (hw : ∀ n, h.length = n → (∀ e ∈ h, e.lt n = true) → AV.ltL n [a0] = true → AV.bdL [a0] → aw Try.prog n c45 (retA [(.cell 2 true 3)] fun x h' => ∃ z, h' = h ++ z ∧ x.lt n = true ∧ ∃ c, x = .ret c ∧ Wk c res) [a0, .any, .any, .any, .any, .any, .any, .any, .any, .any, .any, .any, .any, .any, .any, .any, .any, .any, .any, .any, .any, .any, .any, .any] (h ++ [])) : ACalls Try.prog 45 [a0] h fun x h' => h' = h ∧ x = .ret res := ACalls.weak (ACalls.into k45 rfl hw)
theorem n45 {a0 : AV} {h : AH} {R : AE → AH → Prop} (hw : ∀ n, h.length = n → (∀ e ∈ h, e.lt n = true) → AV.ltL n [a0] = true → AV.bdL [a0] → aw Try.prog n c45 (retA [(.cell 2 true 3)] R) [a0, .any, .any, .any, .any, .any, .any, .any, .any, .any, .any, .any, .any, .any, .any, .any, .any, .any, .any, .any, .any, .any, .any, .any] (h ++ [])) : ACalls Try.prog 45 [a0] h R := ACalls.intoN k45 rfl hw
theorem j45 {a0 : AV} {h : AH} {R : AE → AH → Prop} (hw : ∀ n, h.length = n → (∀ e ∈ h, e.lt n = true) → AV.ltL n [a0] = true → AV.bdL [a0] → aw Try.prog n c45 (retA [(.cell 2 true 3)] fun x h' => ∃ y z, h' = y ++ z ∧ y.length = n ∧ (∀ e ∈ y, e.lt n = true) ∧ x.lt n = true ∧ R x y) [a0, .any, .any, .any, .any, .any, .any, .any, .any, .any, .any, .any, .any, .any, .any, .any, .any, .any, .any, .any, .any, .any, .any, .any] (h ++ [])) : ACalls Try.prog 45 [a0] h R := ACalls.intoG k45 rfl hw
/-- (*wire.reader).times -/
def c41 : AC := (.block 0 (.loop (.seq (.seq (.reg [⟨(some 6), none, (.mv (.tmp 1))⟩, ⟨(some 7), none, (.bin .gtr (.tmp 6) (.const (.int .i64 0)))⟩, ⟨(some 8), none, (.mv (.tmp 7))⟩, ⟨(some 9), (some (8, true)), (.mv (.tmp 0))⟩, ⟨(some 10), (some (8, true)), (.nck (.tmp 9))⟩, ⟨(some 11), (some (8, true)), (.fa 1 (.tmp 10))⟩, ⟨(some 12), (some (8, true)), (.load false 1 (.tmp 11))⟩, ⟨(some 13), (some (8, true)), (.un .not (.tmp 12))⟩, ⟨(some 14), none, (.pick (.tmp 8) (.tmp 13) (.const (.bool false)))⟩]) (.cond (.tmp 14) .skip (.exit 0))) (.seq (.block 1 (.reg [⟨(some 17), none, (.mv (.tmp 2))⟩, ⟨(some 18), none, (.call (.tmp 17) [])⟩])) (.reg [⟨(some 15), none, (.mv (.tmp 1))⟩, ⟨(some 16), none, (.bin .sub (.tmp 15) (.const (.int .i64 1)))⟩, ⟨(some 1), none, (.mv (.tmp 16))⟩])))))
theorem k41 : compF Try.prog 41 = some ⟨c41, [], 19⟩ := by kernel_rfl
theorem i41 {a0 a1 a2 : AV} {h : AH} {R : AE → Prop} (hw : ∀ n, h.length = n → (∀ e ∈ h, e.lt n = true) → AV.ltL n [a0, a1, a2] = true → AV.bdL [a0, a1, a2] → aw Try.prog n c41 (retA [] fun x h' => ∃ z, h' = h ++ z ∧ x.lt n = true ∧ R x) [a0, a1, a2, .any, .any, .any, .any, .any, .any, .any, .any, .any, .any, .any, .any, .any, .any, .any, .any] (h ++ [])) : ACalls Try.prog 41 [a0, a1, a2] h fun x h' => h' = h ∧ R x := ACalls.into k41 rfl hw
theorem w41 {a0 a1 a2 : AV} {h : AH} {res : AV} (hw : ∀ n, h.length = n → (∀ e ∈ h, e.lt n = true) → AV.ltL n [a0, a1, a2] = true → AV.bdL [a0, a1, a2] → aw Try.prog n c41 (retA [] fun x h' => ∃ z, h' = h ++ z ∧ x.lt n = true ∧ ∃ c, x = .ret c ∧ Wk c res) [a0, a1, a2, .any, .any, .any, .any, .any, .any, .any, .any, .any, .any, .any, .any, .any, .any, .any, .any] (h ++ [])) : ACalls Try.prog 41 [a0, a1, a2] h fun x h' => h' = h ∧ x = .ret res := ACalls.weak (ACalls.into k41 rfl hw)
theorem n41 {a0 a1 a2 : AV} {h : AH} {R : AE → AH → Prop} (hw : ∀ n, h.length = n → (∀ e ∈ h, e.lt n = true) → AV.ltL n [a0, a1, a2] = true → AV.bdL [a0, a1, a2] → aw Try.prog n c41 (retA [] R) [a0, a1, a2, .any, .any, .any, .any, .any, .any, .any, .any, .any, .any, .any, .any, .any, .any, .any, .any] (h ++ [])) : ACalls Try.prog 41 [a0, a1, a2] h R := ACalls.intoN k41 rfl hw
theorem j41 {a0 a1 a2 : AV} {h : AH} {R : AE → AH → Prop} (hw : ∀ n, h.length = n → (∀ e ∈ h, e.lt n = true) → AV.ltL n [a0, a1, a2] = true → AV.bdL [a0, a1, a2] → aw Try.prog n c41 (retA [] fun x h' => ∃ y z, h' = y ++ z ∧ y.length = n ∧ (∀ e ∈ y, e.lt n = true) ∧ x.lt n = true ∧ R x y) [a0, a1, a2, .any, .any, .any, .any, .any, .any, .any, .any, .any, .any, .any, .any, .any, .any, .any, .any] (h ++ [])) : ACalls Try.prog 41 [a0, a1, a2] h R := ACalls.intoG k41 rfl hw
abbrev sb (S : List UInt8) : AV := sv ⟨S.toArray⟩
def tkR (n : Nat) (S : List UInt8) : List UInt8 := if S.length < n then [] else S.take n
def tkS (n : Nat) (S : List UInt8) : List UInt8 := if S.length < n then [] else S.drop n
def tkB (n : Nat) (S : List UInt8) (sh : Bool) : Bool := if S.length < n then true else sh
theorem sb_size (S : List UInt8) : (⟨S.toArray⟩ : ByteArray).size = S.length := rfl
theorem sb_ext (S : List UInt8) (a b : Nat) : (⟨S.toArray⟩ : ByteArray).extract a b = ⟨((S.take b).drop a).toArray⟩ := by
  apply ByteArray.ext
  rw [ByteArray.data_extract]
  apply Array.ext'
  rw [Array.toList_extract, List.extract_eq_take_drop, List.drop_take]
theorem sb_at (S : List UInt8) (k : Nat) : byteAt ⟨S.toArray⟩ k = S.getD k 0 := rfl
theorem v_slsS {h : AH} {T : List AV} {x : Operand} {lo hi : Option Operand} {l u : Int} {S : List UInt8} {a b : Nat} (hx : aEval T x = sb S) (hl : optInt (aEval T) 0 lo = some l) (hh : optInt (aEval T) S.length hi = some u) (ha : l = (a : Int)) (hb : u = (b : Int)) (h1 : a ≤ b) (h2 : b ≤ S.length) : aval h (aEval T) (.sls x lo hi) = some (sb ((S.take b).drop a)) := by
  subst ha hb
  rw [v_sls hx hl hh (by omega) (by omega) (by rw [sb_size]; omega), sb_ext]
  rfl
theorem take_a {S : List UInt8} {sh : Bool} {KS : AV} {id v0 ty n : Nat} {h : AH} (h1 : h[id]? = some (.mk v0 ty 3 [sb S, bv sh, KS])) (hK : KS.lt h.length = true) :
    ACalls Try.prog 44 [.ptr id v0 0, iv (n : Int)] h fun r h' => r = .ret (sb (tkR n S)) ∧ h' = h.set id (.mk v0 ty 3 [sb (tkS n S), bv (tkB n S sh), KS]) := by
  have hid : id < h.length := (List.getElem?_eq_some_iff.1 h1).1
  refine j44 ?_
  intro N hn hlt hlA hbd
  try simp only [AV.bdL, AV.bd, and_true, true_and] at hbd
  rw [hn] at hK
  refine aw_heap (h1 := h.set id (.mk v0 ty 3 [sb S, bv sh, KS]) ++ []) (by rw [hx_self h1]) ?_
  refine w_seq ?_
  refine w_reg ?_
  refine s_val rfl (v_mv lks) pt4 ?_
  refine s_nil ?_
  refine n_seq ?_
  refine w_seq ?_
  refine w_seq ?_
  refine w_reg ?_
  refine s_val rfl (v_mv lk0) pt6 ?_
  refine s_val rfl (v_nckp lk6) pt7 ?_
  refine s_val rfl (v_fap0 lk7) pt8 ?_
  refine s_val rfl (v_loadp lk8 (hx_at hid) gt0) pt9 ?_
  refine s_val rfl (v_lenS lk9) pt10 ?_
  refine s_val rfl (v_mv lk1) pt11 ?_
  refine s_val rfl (v_lss lk10 lk11) pt12 ?_
  refine s_nil ?_
  refine n_seq ?_
  first | refine w_cond lk12 (fun hc1 => ?_) (fun hc1 => ?_) | refine w_condB lk12 (fun hc1 => ?_) (fun hc1 => ?_)
  · skip
    have hc1' : S.length < n := by rw [sb_size] at hc1; omega
    refine w_seq ?_
    refine w_reg ?_
    refine s_val rfl (v_mv lk0) pt13 ?_
    refine s_val rfl (v_mv lk0) pt14 ?_
    refine s_val rfl (v_nckp lk13) pt15 ?_
    refine s_val rfl (v_fap0 lk15) pt16 ?_
    refine s_eff rfl rfl (e_store lk16 (cvl lks rfl) (hx_at hid) rfl (Nat.le_of_ble_eq_true rfl) rfl WDecA_sc0_1 (hx_set hid)) ptn ?_
    refine s_val rfl (v_nckp lk14) pt17 ?_
    refine s_val rfl (v_fap0 lk17) pt18 ?_
    refine s_eff rfl rfl (e_store lk18 (cvl lkb rfl) (hx_at hid) rfl (Nat.le_of_ble_eq_true rfl) rfl WDecA_sc1_1 (hx_set hid)) ptn ?_
    refine s_nil ?_
    refine n_seq ?_
    refine w_seq ?_
    refine w_reg ?_
    refine s_val rfl (v_mv lks) pt4 ?_
    refine s_nil ?_
    refine n_seq ?_
    refine w_rets ?_
    refine r_thn ?_
    refine w_ret (rs1 (rr_t gt4)) ?_
    refine ⟨_, _, rfl, hx_len hn, hx_lt hlt (by simp [Ent.lt, AV.lt, AV.ltL, *]), rfl, ?_, ?_⟩
    rw [tkR, if_pos hc1']
    rw [tkS, tkB, if_pos hc1', if_pos hc1']
  · skip
    have hc1' : ¬ S.length < n := by rw [sb_size] at hc1; omega
    refine w_skip ?_
    refine n_seq ?_
    refine w_seq ?_
    refine w_reg ?_
    refine s_val rfl (v_mv lk0) pt19 ?_
    refine s_val rfl (v_nckp lk19) pt20 ?_
    refine s_val rfl (v_fap0 lk20) pt21 ?_
    refine s_val rfl (v_loadp lk21 (hx_at hid) gt0) pt22 ?_
    refine s_val rfl (v_mv lk1) pt23 ?_
    refine s_val rfl (v_slsS (a := 0) (b := n) lk22 on_ (oi lk23) rfl rfl (by omega) (by omega)) pt24 ?_
    refine s_val rfl (v_mv lk24) pt5 ?_
    refine s_nil ?_
    refine n_seq ?_
    refine w_seq ?_
    refine w_reg ?_
    refine s_val rfl (v_mv lk0) pt25 ?_
    refine s_val rfl (v_mv lk0) pt26 ?_
    refine s_val rfl (v_nckp lk26) pt27 ?_
    refine s_val rfl (v_fap0 lk27) pt28 ?_
    refine s_val rfl (v_loadp lk28 (hx_at hid) gt0) pt29 ?_
    refine s_val rfl (v_mv lk1) pt30 ?_
    refine s_val rfl (v_slsS (a := n) (b := S.length) lk29 (oi lk30) on_ rfl rfl (by omega) (by omega)) pt31 ?_
    refine s_val rfl (v_nckp lk25) pt32 ?_
    refine s_val rfl (v_fap0 lk32) pt33 ?_
    refine s_eff rfl rfl (e_store lk33 (cvl lk31 rfl) (hx_at hid) rfl (Nat.le_of_ble_eq_true rfl) rfl WDecA_sc0_1 (hx_set hid)) ptn ?_
    refine s_nil ?_
    refine n_seq ?_
    refine w_seq ?_
    refine w_reg ?_
    refine s_val rfl (v_mv lk5) pt34 ?_
    refine s_val rfl (v_mv lk34) pt4 ?_
    refine s_nil ?_
    refine n_seq ?_
    refine w_rets ?_
    refine w_ret (rs1 (rr_t gt4)) ?_
    refine ⟨_, _, rfl, hx_len hn, hx_lt hlt (by simp [Ent.lt, AV.lt, AV.ltL, *]), rfl, ?_, ?_⟩
    rw [tkR, if_neg hc1', List.drop_zero]
    rw [tkS, tkB, if_neg hc1', if_neg hc1', List.take_length]
theorem tkR_len (n : Nat) (S : List UInt8) : (tkR n S).length ≤ n := by
  unfold tkR
  split
  · simp
  · rw [List.length_take]; omega
theorem byte_bd' (s : ByteArray) (k : Nat) : (0 : Int) ≤ ((byteAt s k).toNat : Int) ∧ ((byteAt s k).toNat : Int) ≤ 255 := by
  have := (byteAt s k).toNat_lt
  omega
theorem or8 {x b : Int} (hx0 : 0 ≤ x) (hx1 : x < 1099511627776) (hb0 : 0 ≤ b) (hb1 : b < 256) : IntKind.i64.wrap (BitVec.ofInt 64 (256 * x) ||| BitVec.ofInt 64 b).toNat = 256 * x + b := by
  obtain ⟨a, rfl⟩ : ∃ a : Nat, x = (a : Int) := ⟨x.toNat, by omega⟩
  obtain ⟨c, rfl⟩ : ∃ c : Nat, b = (c : Int) := ⟨b.toNat, by omega⟩
  have e1 : BitVec.ofInt 64 (256 * (a : Int)) = BitVec.ofNat 64 (a <<< 8) := by
    rw [Nat.shiftLeft_eq]
    have : (256 * (a : Int)) = ((a * 2 ^ 8 : Nat) : Int) := by omega
    rw [this, BitVec.ofInt_natCast]
  have e2 : BitVec.ofInt 64 (c : Int) = BitVec.ofNat 64 c := BitVec.ofInt_natCast 64 c
  have h3 : a <<< 8 < 2 ^ 64 := by rw [Nat.shiftLeft_eq]; omega
  have h4 : a <<< 8 ||| c = a <<< 8 + c := (Nat.shiftLeft_add_eq_or_of_lt (by omega) a).symm
  rw [e1, e2, BitVec.toNat_or, BitVec.toNat_ofNat, BitVec.toNat_ofNat, Nat.mod_eq_of_lt h3, Nat.mod_eq_of_lt (by omega), h4, Nat.shiftLeft_eq]
  rw [w64 (by omega) (by omega)]
  omega
theorem v_shl8 {h : AH} {T : List AV} {x y : Operand} {n : Int} {kd : IntKind} (hx : aEval T x = iv n) (hy : aEval T y = .v (.int kd 8)) (h0 : 0 ≤ n) (h1 : n < 1099511627776) : aval h (aEval T) (.bin .shl x y) = some (iv (256 * n)) := v_bin hx hy (by
  simp only [vBin]
  rw [if_neg (by omega)]
  have : (2 : Int) ^ (min (8 : Int).toNat IntKind.i64.bits) = 256 := by decide
  rw [this, w64 (by omega) (by omega), Int.mul_comm])
theorem v_or8 {h : AH} {T : List AV} {x y : Operand} {n b : Int} (hx : aEval T x = iv (256 * n)) (hy : aEval T y = iv b) (h0 : 0 ≤ n) (h1 : n < 1099511627776) (hb0 : 0 ≤ b) (hb1 : b < 256) : aval h (aEval T) (.bin .or x y) = some (iv (256 * n + b)) := v_bin hx hy (by
  simp only [vBin, if_true, iBin]
  have := or8 h0 h1 hb0 hb1
  rw [show IntKind.i64.bits = 64 from rfl, this])
theorem number_a {S : List UInt8} {sh : Bool} {KS : AV} {id v0 ty n : Nat} {h : AH} (h1 : h[id]? = some (.mk v0 ty 3 [sb S, bv sh, KS])) (hK : KS.lt h.length = true) (hn5 : n ≤ 5) :
    ACalls Try.prog 42 [.ptr id v0 0, iv (n : Int)] h fun r h' => r = .ret (iv (nm (tkR n S))) ∧ h' = h.set id (.mk v0 ty 3 [sb (tkS n S), bv (tkB n S sh), KS]) := by
  have hid : id < h.length := (List.getElem?_eq_some_iff.1 h1).1
  have hl := tkR_len n S
  refine j42 ?_
  intro N hn hlt hlA hbd
  try simp only [AV.bdL, AV.bd, and_true, true_and] at hbd
  rw [hn] at hK
  refine aw_heap (h1 := h.set id (.mk v0 ty 3 [sb S, bv sh, KS]) ++ []) (by rw [hx_self h1]) ?_
  refine w_seq ?_
  refine w_reg ?_
  refine s_val rfl (v_mv lki) pt4 ?_
  refine s_nil ?_
  refine n_seq ?_
  refine w_seq ?_
  refine w_reg ?_
  refine s_val rfl (v_mv lk0) pt8 ?_
  refine s_val rfl (v_mv lk1) pt9 ?_
  refine s_calls (mp1 lk8 (mp1 lk9 mp0)) (take_a (hx_at hid) (by simp [(hx_len hn)]; exact hK)) (hx_set hid) pt10 ?_
  refine s_val rfl (v_mv lk10) pt5 ?_
  refine s_nil ?_
  refine n_seq ?_
  refine w_seq ?_
  refine w_reg ?_
  refine s_val rfl (v_mv lki) pt6 ?_
  refine s_nil ?_
  refine n_seq ?_
  refine w_seq ?_
  refine w_seq ?_
  refine w_reg ?_
  refine s_val rfl (v_mv lk5) pt11 ?_
  refine s_val rfl (v_lenS lk11) pt12 ?_
  refine s_val rfl (v_sub lk12 lki (by have := hl; rw [sb_size]; omega) (by have := hl; rw [sb_size]; omega)) pt13 ?_
  refine s_val rfl (v_mv lk13) pt7 ?_
  refine s_nil ?_
  refine n_seq ?_
  refine w_block ?_
  refine w_loop (ι := Nat) (fun (k : Nat) => [(6, iv (nm ((tkR n S).drop k))), (7, iv ((k : Int) - 1)), (14, .any), (15, .any), (16, .any), (17, .any), (18, .any), (19, .any), (20, .any), (21, .any), (22, .any), (23, .any), (24, .any)]) (fun (k : Nat) => []) (fun (k : Nat) => k ≤ (tkR n S).length) (fun (k : Nat) => k) ((tkR n S).length) (by exact Nat.le_refl _) (by try simp only [setsT, setsE, List.set_cons_zero, List.set_cons_succ]; exact ALe.same (wk1 rfl (wk1 rfl (wk1 rfl (wk1 rfl (wk1 rfl (wk1 rfl (wk1 (by first | rfl | exact ivx (by omega) | (simp [nm]; done)) (wk1 (by first | rfl | exact ivx (by omega) | (simp [nm]; done)) (wk1 rfl (wk1 rfl (wk1 rfl (wk1 rfl (wk1 rfl (wk1 rfl (wka (wka (wka (wka (wka (wka (wka (wka (wka (wka (wka (wk1 rfl wk0)))))))))))))))))))))))))) rfl) ?_
  rintro k hi1
  try simp only [setsT, setsE, List.set_cons_zero, List.set_cons_succ]
  refine w_seq ?_
  refine w_seq ?_
  refine w_reg ?_
  refine s_val rfl (v_mv lk7) pt14 ?_
  refine s_val rfl (v_geq lk14 lki) pt15 ?_
  refine s_nil ?_
  refine n_seq ?_
  first | refine w_cond lk15 (fun hc1 => ?_) (fun hc1 => ?_) | refine w_condB lk15 (fun hc1 => ?_) (fun hc1 => ?_)
  · skip
    have hk : 0 < k := by omega
    have hb := nm_bd ((tkR n S).drop k)
    have hb2 : nm ((tkR n S).drop k) < 1099511627776 := by
      refine Int.lt_of_lt_of_le hb.2 ?_
      have hq : ((tkR n S).drop k).length ≤ 5 := by rw [List.length_drop]; omega
      have : (256 : Int) ^ ((tkR n S).drop k).length ≤ 256 ^ 5 := by exact_mod_cast Nat.pow_le_pow_right (by omega) hq
      omega
    have hby := byte_bd' ⟨(tkR n S).toArray⟩ ((k : Int) - 1).toNat
    refine w_skip ?_
    refine n_seq ?_
    refine w_seq ?_
    refine w_block ?_
    refine w_reg ?_
    refine s_val rfl (v_mv lk6) pt18 ?_
    refine s_val rfl (v_shl8 lk18 lki hb.1 hb2) pt19 ?_
    refine s_val rfl (v_mv lk5) pt20 ?_
    refine s_val rfl (v_mv lk7) pt21 ?_
    refine s_val rfl (v_ix lk20 lk21 (by (try simp only [sb_size]); omega) (by (try simp only [sb_size]); omega)) pt22 ?_
    refine s_val rfl (v_cvi64 lk22 (by omega) (by omega)) pt23 ?_
    refine s_val rfl (v_or8 lk19 lk23 hb.1 hb2 hby.1 (by omega)) pt24 ?_
    refine s_val rfl (v_mv lk24) pt6 ?_
    refine s_nil ?_
    refine n_blk ?_
    refine n_seq ?_
    refine w_reg ?_
    refine s_val rfl (v_mv lk7) pt16 ?_
    refine s_val rfl (v_sub lk16 lki (by omega) (by omega)) pt17 ?_
    refine s_val rfl (v_mv lk17) pt7 ?_
    refine s_nil ?_
    refine n_thn ?_
    refine LoopTo.mk (k - 1) (by omega) (by (try dsimp only); omega) (by (try dsimp only); (try simp only [setsT, setsE, List.set_cons_zero, List.set_cons_succ]); exact ALe.same (wk1 rfl (wk1 rfl (wk1 rfl (wk1 rfl (wk1 rfl (wk1 rfl (wk1 (by first | rfl | exact ivx (by omega) | (refine ivx ?_; rw [List.drop_eq_getElem_cons (show k - 1 < (tkR n S).length by omega), nm, sb_at, show ((k : Int) - 1).toNat = k - 1 by omega, show k - 1 + 1 = k by omega, List.getD_eq_getElem?_getD, List.getElem?_eq_getElem (by omega)]; simp; omega)) (wk1 (by first | rfl | exact ivx (by omega) | (refine ivx ?_; rw [List.drop_eq_getElem_cons (show k - 1 < (tkR n S).length by omega), nm, sb_at, show ((k : Int) - 1).toNat = k - 1 by omega, show k - 1 + 1 = k by omega, List.getD_eq_getElem?_getD, List.getElem?_eq_getElem (by omega)]; simp; omega)) (wk1 rfl (wk1 rfl (wk1 rfl (wk1 rfl (wk1 rfl (wk1 rfl (wka (wka (wka (wka (wka (wka (wka (wka (wka (wka (wka (wk1 rfl wk0)))))))))))))))))))))))))) rfl)
  · skip
    refine w_exit ?_
    refine x_thn ?_
    refine x_thn ?_
    refine x_blk ?_
    refine n_seq ?_
    refine w_seq ?_
    refine w_reg ?_
    refine s_val rfl (v_mv lk6) pt25 ?_
    refine s_val rfl (v_mv lk25) pt4 ?_
    refine s_nil ?_
    refine n_seq ?_
    refine w_rets ?_
    refine w_ret (rs1 (rr_t gt4)) ?_
    have hk0 : k = 0 := by omega
    refine ⟨_, _, rfl, hx_len hn, hx_lt hlt (by simp [Ent.lt, AV.lt, AV.ltL, *]), rfl, ?_, rfl⟩
    rw [hk0, List.drop_zero]
def zl : Loc := (0, 0, ⟨#[]⟩)
def lcR (K : List Loc) (S : List UInt8) : Loc := K.getD (nm (tkR 2 S)).toNat zl
def lcB (K : List Loc) (S : List UInt8) (sh : Bool) : Bool := if nm (tkR 2 S) < (K.length : Int) then tkB 2 S sh else true
theorem rlocal_a {S : List UInt8} {sh : Bool} {K : List Loc} {id v0 ty : Nat} {h : AH} (h1 : h[id]? = some (.mk v0 ty 3 [sb S, bv sh, .sl K.length 3 false (rows locC K)])) :
    ACalls Try.prog 45 [.ptr id v0 0] h fun r h' => r = .ret (.agg (locC (lcR K S))) ∧ h' = h.set id (.mk v0 ty 3 [sb (tkS 2 S), bv (lcB K S sh), .sl K.length 3 false (rows locC K)]) := by
  have hid : id < h.length := (List.getElem?_eq_some_iff.1 h1).1
  have hb := nm_bd (tkR 2 S)
  refine j45 ?_
  intro N hn hlt hlA hbd
  try simp only [AV.bdL, AV.bd, and_true, true_and] at hbd
  refine aw_heap (h1 := h.set id (.mk v0 ty 3 [sb S, bv sh, .sl K.length 3 false (rows locC K)]) ++ []) (by rw [hx_self h1]) ?_
  refine w_seq ?_
  refine w_reg ?_
  refine s_eff rfl rfl (e_new (hl0 (hx_len hn)) ha0) pt2 ?_
  refine s_nil ?_
  refine n_seq ?_
  refine w_seq ?_
  refine w_reg ?_
  refine s_val rfl (v_mv lk0) pt4 ?_
  refine s_calls (mp1 lk4 (mp1 lki mp0)) (number_a (n := 2) (hx_at hid) (by simp [AV.lt, loc_lt]) (by omega)) (hx_set hid) pt5 ?_
  refine s_val rfl (v_mv lk5) pt3 ?_
  refine s_nil ?_
  refine n_seq ?_
  refine w_seq ?_
  refine w_seq ?_
  refine w_reg ?_
  refine s_val rfl (v_mv lk3) pt6 ?_
  refine s_val rfl (v_mv lk0) pt7 ?_
  refine s_val rfl (v_nckp lk7) pt8 ?_
  refine s_val rfl (v_fap0 lk8) pt9 ?_
  refine s_val rfl (v_loadp lk9 (hx_at hid) gt2) pt10 ?_
  refine s_val rfl (v_lenL lk10) pt11 ?_
  refine s_val rfl (v_geq lk6 lk11) pt12 ?_
  refine s_nil ?_
  refine n_seq ?_
  first | refine w_cond lk12 (fun hc1 => ?_) (fun hc1 => ?_) | refine w_condB lk12 (fun hc1 => ?_) (fun hc1 => ?_)
  · skip
    refine w_seq ?_
    refine w_reg ?_
    refine s_val rfl (v_mv lk0) pt13 ?_
    refine s_val rfl (v_nckp lk13) pt14 ?_
    refine s_val rfl (v_fap0 lk14) pt15 ?_
    refine s_eff rfl rfl (e_store lk15 (cvl lkb rfl) (hx_at hid) rfl (Nat.le_of_ble_eq_true rfl) rfl WDecA_sc1_1 (hx_set hid)) ptn ?_
    refine s_nil ?_
    refine n_seq ?_
    refine w_seq ?_
    refine w_reg ?_
    refine s_val rfl (v_build WDecA_local_16) pt16 ?_
    refine s_eff rfl rfl (e_store lk2 (cvl lk16 rfl) (hga (hx_len hn) rfl) rfl (Nat.le_of_ble_eq_true rfl) rfl WDecA_sc0_3 (hs0 (hx_len hn))) ptn ?_
    refine s_nil ?_
    refine n_seq ?_
    refine w_rets ?_
    refine r_thn ?_
    refine w_ret (rs1 (rr_c gt2 (hga (hx_len hn) rfl) (ld1 WDecA_tk0_3 rfl))) ?_
    have hc : ¬ nm (tkR 2 S) < (K.length : Int) := by omega
    refine ⟨_, _, rfl, hx_len hn, hx_lt hlt (by simp [Ent.lt, AV.lt, AV.ltL, loc_lt]), rfl, ?_, ?_⟩
    have e1 : lcR K S = zl := by rw [lcR, List.getD_eq_getElem?_getD, List.getElem?_eq_none (by omega)]; rfl
    rw [e1]; rfl
    rw [lcB, if_neg hc]
  · skip
    refine w_skip ?_
    refine n_seq ?_
    refine w_seq ?_
    refine w_reg ?_
    refine s_val rfl (v_mv lk0) pt17 ?_
    refine s_val rfl (v_nckp lk17) pt18 ?_
    refine s_val rfl (v_fap0 lk18) pt19 ?_
    refine s_val rfl (v_loadp lk19 (hx_at hid) gt2) pt20 ?_
    refine s_val rfl (v_mv lk3) pt21 ?_
    refine s_val rfl (v_iaR (k := (nm (tkR 2 S)).toNat) lk20 lk21 loc_len1 (Nat.le_of_ble_eq_true rfl) (by first | rfl | omega) (by omega) (by first | rfl | omega) rfl) pt22 ?_
    refine s_val rfl (v_loadrA lk22 WDecA_tk_3 rfl) pt23 ?_
    refine s_eff rfl rfl (e_store lk2 (cvl lk23 rfl) (hga (hx_len hn) rfl) rfl (Nat.le_of_ble_eq_true rfl) rfl WDecA_sc0_3 (hs0 (hx_len hn))) ptn ?_
    refine s_nil ?_
    refine n_seq ?_
    refine w_rets ?_
    refine w_ret (rs1 (rr_c gt2 (hga (hx_len hn) rfl) (ld1 WDecA_tk0_3 rfl))) ?_
    have hc : nm (tkR 2 S) < (K.length : Int) := by omega
    refine ⟨_, _, rfl, hx_len hn, hx_lt hlt (by simp [Ent.lt, AV.lt, AV.ltL, loc_lt]), rfl, ?_, ?_⟩
    have e1 : lcR K S = K[(nm (tkR 2 S)).toNat]'(by omega) := by rw [lcR, List.getD_eq_getElem?_getD, List.getElem?_eq_getElem (by omega)]; rfl
    rw [e1]
    rw [lcB, if_pos hc]
theorem nmR_bd {n : Nat} (hn : n ≤ 5) (S : List UInt8) : 0 ≤ nm (tkR n S) ∧ nm (tkR n S) < 1099511627776 := by
  have hb := nm_bd (tkR n S)
  have hl := tkR_len n S
  refine ⟨hb.1, Int.lt_of_lt_of_le hb.2 ?_⟩
  have : (256 : Int) ^ (tkR n S).length ≤ 256 ^ 5 := by exact_mod_cast Nat.pow_le_pow_right (by omega) (by omega)
  omega
theorem take_a' {S : List UInt8} {sh : Bool} {KS : AV} {id v0 ty n : Nat} {x : Int} {h : AH} (hx : x = (n : Int)) (h1 : h[id]? = some (.mk v0 ty 3 [sb S, bv sh, KS])) (hK : KS.lt h.length = true) :
    ACalls Try.prog 44 [.ptr id v0 0, iv x] h fun r h' => r = .ret (sb (tkR n S)) ∧ h' = h.set id (.mk v0 ty 3 [sb (tkS n S), bv (tkB n S sh), KS]) := by
  subst hx
  exact take_a h1 hK
/-- something done so often, as long as there is enough -/
def iterT {σ : Type} (sh : σ → Bool) (step : σ → σ) : Nat → σ → σ
  | 0, s => s
  | m + 1, s => if sh s then s else iterT sh step m (step s)
theorem iterT_sh {σ : Type} {sh : σ → Bool} {step : σ → σ} : ∀ (m : Nat) {s : σ}, sh s = true → iterT sh step m s = s
  | 0, _, _ => rfl
  | m + 1, s, h => by rw [iterT, if_pos h]
theorem iterT_no {σ : Type} {sh : σ → Bool} {step : σ → σ} {m : Nat} {s : σ} (h : sh s = false) : iterT sh step (m + 1) s = iterT sh step m (step s) := by
  rw [iterT, if_neg (by rw [h]; simp)]
theorem times_a {σ : Type} (H : σ → AH) (sh : σ → Bool) (step : σ → σ) (Inv : Nat → σ → Prop) {id v0 ty : Nat} {f : FuncId} {caps : List AV}
    (hA : ∀ s, ∃ a b, (H s)[id]? = some (.mk v0 ty 3 [a, bv (sh s), b])) (hI : ∀ k s, Inv (k + 1) s → sh s = false → Inv k (step s))
    (hf : ∀ k s, Inv (k + 1) s → sh s = false → ACalls Try.prog f caps (H s) fun r h' => r = .ret (.tup []) ∧ h' = H (step s)) {m : Nat} {x : Int} {s0 : σ} (hx : x = (m : Int)) (hxb : x ≤ 1099511627776) (h0 : Inv m s0) :
    ACalls Try.prog 41 [.ptr id v0 0, iv x, .clo (.func f) caps] (H s0) fun r h' => r = .ret (.tup []) ∧ h' = H (iterT sh step m s0) := by
  subst hx
  refine n41 ?_
  intro N hn hlt hlA hbd
  try simp only [AV.bdL, AV.bd, and_true, true_and] at hbd
  refine aw_heap (h1 := H s0) (by simp) ?_
  refine w_block ?_
  refine w_loopH (ι := Nat × σ) (fun (x_ : Nat × σ) => match x_ with | ⟨k, s⟩ => [(1, iv (k : Int)), (6, .any), (7, .any), (8, .any), (9, .any), (10, .any), (11, .any), (12, .any), (13, .any), (14, .any), (15, .any), (16, .any), (17, .any), (18, .any)]) (fun (x_ : Nat × σ) => match x_ with | ⟨k, s⟩ => H s) (fun (x_ : Nat × σ) => match x_ with | ⟨k, s⟩ => Inv k s ∧ k ≤ m ∧ iterT sh step m s0 = iterT sh step k s) (fun (x_ : Nat × σ) => match x_ with | ⟨k, s⟩ => k) (⟨m, s0⟩) (by exact ⟨h0, Nat.le_refl _, rfl⟩) (by try simp only [setsT, setsE, List.set_cons_zero, List.set_cons_succ]; exact ALe.same (wk1 rfl (wk1 (by first | rfl | exact ivx (by omega) | (simp; done)) (wk1 rfl (wk1 rfl (wk1 rfl (wk1 rfl (wka (wka (wka (wka (wka (wka (wka (wka (wka (wka (wka (wka (wka wk0))))))))))))))))))) rfl) ?_
  rintro ⟨k, s⟩ hi1
  try simp only [setsT, setsE, List.set_cons_zero, List.set_cons_succ]
  obtain ⟨hk1, hkm, hk2⟩ := hi1
  obtain ⟨xa, xb, hAs⟩ := hA s
  refine w_seq ?_
  refine w_seq ?_
  refine w_reg ?_
  refine s_val rfl (v_mv lk1) pt6 ?_
  refine s_val rfl (v_gtr lk6 lki) pt7 ?_
  refine s_val rfl (v_mv lk7) pt8 ?_
  first | refine s_splitP gt8 pt8 pt8 (fun hg8 => ?_) (fun hg8 => ?_) | refine s_splitB gt8 pt8 pt8 (fun hg8 => ?_) (fun hg8 => ?_)
  · skip
    refine s_do gt8 ?_
    refine s_val rfl (v_mv lk0) pt9 ?_
    refine s_do gt8 ?_
    refine s_val rfl (v_nckp lk9) pt10 ?_
    refine s_do gt8 ?_
    refine s_val rfl (v_fap0 lk10) pt11 ?_
    refine s_do gt8 ?_
    refine s_val rfl (v_loadp lk11 hAs gt1) pt12 ?_
    refine s_do gt8 ?_
    refine s_val rfl (v_notB lk12) pt13 ?_
    refine s_val rfl (v_pickT lk8 lk13) pt14 ?_
    refine s_nil ?_
    refine n_seq ?_
    refine w_condB lk14 (fun hc1 => ?_) (fun hc1 => ?_)
    · skip
      obtain ⟨j, rfl⟩ : ∃ j, k = j + 1 := ⟨k - 1, by omega⟩
      have hs0 : sh s = false := by simpa using hc1
      refine w_skip ?_
      refine n_seq ?_
      refine w_seq ?_
      refine w_block ?_
      refine w_reg ?_
      refine s_val rfl (v_mv lk2) pt17 ?_
      refine s_callCh lk17 mp0 (hf j s hk1 hs0) pt18 ?_
      refine s_nil ?_
      refine n_blk ?_
      refine n_seq ?_
      refine w_reg ?_
      refine s_val rfl (v_mv lk1) pt15 ?_
      refine s_val rfl (v_sub lk15 lki (by omega) (by omega)) pt16 ?_
      refine s_val rfl (v_mv lk16) pt1 ?_
      refine s_nil ?_
      refine n_thn ?_
      refine LoopTo.mk (⟨j, step s⟩) (by omega) (by (try dsimp only); exact ⟨hI j s hk1 hs0, by omega, by rw [hk2, iterT_no hs0]⟩) (by (try dsimp only); (try simp only [setsT, setsE, List.set_cons_zero, List.set_cons_succ]); exact ALe.same (wk1 rfl (wk1 (by first | rfl | exact ivx (by omega) | (simp; done)) (wk1 rfl (wk1 rfl (wk1 rfl (wk1 rfl (wka (wka (wka (wka (wka (wka (wka (wka (wka (wka (wka (wka (wka wk0))))))))))))))))))) rfl)
    · skip
      refine w_exit ?_
      refine x_thn ?_
      refine x_thn ?_
      refine x_blk ?_
      refine w_end (rs0) ?_
      have hs1 : sh s = true := by simpa using hc1
      exact ⟨rfl, by rw [hk2, iterT_sh _ hs1]⟩
  · skip
    refine s_no gt8 pt9 ?_
    refine s_no gt8 pt10 ?_
    refine s_no gt8 pt11 ?_
    refine s_no gt8 pt12 ?_
    refine s_no gt8 pt13 ?_
    refine s_val rfl (v_pickF lk8 lkb) pt14 ?_
    refine s_nil ?_
    refine n_seq ?_
    refine w_condF lk14 ?_
    refine w_exit ?_
    refine x_thn ?_
    refine x_thn ?_
    refine x_blk ?_
    refine w_end (rs0) ?_
    have hk0 : k = 0 := by omega
    subst hk0
    exact ⟨rfl, by rw [hk2]; rfl⟩
end Go.Proofs.Ytmbebimingkfeaa
