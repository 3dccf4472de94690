/-
  Contracts on plain data: delta.Patched and delta.Apply. Conditions: names are no longer than a text may be.
-/
import Derived.Test.YtmbebimingkfeaaADelC
set_option linter.unusedVariables false
set_option linter.unusedSimpArgs false
set_option maxRecDepth 100000
namespace Go.Proofs.Ytmbebimingkfeaa
open Go.Ab Civ
section
theorem ADelD_Patched_33 {τ : Operand → AV} : fillAV τ [] [(.v (.int .i64 0)), (.v (.int .i64 0)), (.v (.string ⟨#[]⟩)), (.sl 0 0 true [])] = some [(.v (.int .i64 0)), (.v (.int .i64 0)), (.v (.string ⟨#[]⟩)), (.sl 0 0 true [])] := rfl
theorem ADelD_sc0_4 {a0 a1 a2 a3 c0 c1 c2 c3 : AV} {l : List AV} : setCells (a0 :: a1 :: a2 :: a3 :: l) 0 [c0, c1, c2, c3] = c0 :: c1 :: c2 :: c3 :: l := rfl
theorem ADelD_tk0_4 {a0 a1 a2 a3 : AV} {l : List AV} : ((a0 :: a1 :: a2 :: a3 :: l).drop 0).take 4 = [a0, a1, a2, a3] := rfl
theorem ADelD_Patched_41 {τ : Operand → AV} : fillAV τ [] [(.v (.int .i64 0)), (.v (.int .i64 0)), (.v (.string ⟨#[]⟩)), (.sl 0 0 true [])] = some [(.v (.int .i64 0)), (.v (.int .i64 0)), (.v (.string ⟨#[]⟩)), (.sl 0 0 true [])] := rfl
theorem ADelD_tk0_3 {a0 a1 a2 : AV} {l : List AV} : ((a0 :: a1 :: a2 :: l).drop 0).take 3 = [a0, a1, a2] := rfl
theorem ADelD_Patched_60 {τ : Operand → AV} {y0 y1 y2 : Operand} {x0_0 x1_0 x2_0 : AV} (h0 : cellsV (τ y0) = some [x0_0]) (l0 : [x0_0].all leaf = true) (h1 : cellsV (τ y1) = some [x1_0]) (l1 : [x1_0].all leaf = true) (h2 : cellsV (τ y2) = some [x2_0]) (l2 : [x2_0].all leaf = true) : fillAV τ [(0, 1, y0), (1, 1, y1), (2, 1, y2)] [(.sl 0 0 true []), (.sl 0 0 true []), (.sl 0 0 true [])] = some [x0_0, x1_0, x2_0] := by
  simp only [fillAV, h0, l0, h1, l1, h2, l2]
  rfl
theorem ADelD_lap0 { e : Ent} : ([] : AH) ++ [e] = [e] := rfl
theorem ADelD_Patched_62 {τ : Operand → AV} {y0 y1 : Operand} {x0_0 x0_1 x0_2 x1_0 : AV} (h0 : cellsV (τ y0) = some [x0_0, x0_1, x0_2]) (l0 : [x0_0, x0_1, x0_2].all leaf = true) (h1 : cellsV (τ y1) = some [x1_0]) (l1 : [x1_0].all leaf = true) : fillAV τ [(0, 3, y0), (3, 1, y1)] [(.v (.int .i64 0)), (.v (.int .i64 0)), (.v (.string ⟨#[]⟩)), (.sl 0 0 true [])] = some [x0_0, x0_1, x0_2, x1_0] := by
  simp only [fillAV, h0, l0, h1, l1]
  rfl
theorem ADelD_lap1 {e0 e : Ent} : ([e0] : AH) ++ [e] = [e0, e] := rfl
theorem ADelD_lj3_2 {e0 e1 e2 d0 d1 : Ent} : ([e0, e1, e2] : AH) ++ [d0, d1] = [e0, e1, e2, d0, d1] := rfl
theorem ADelD_Patched_70 {τ : Operand → AV} : fillAV τ [] [(.v (.int .i64 0)), (.v (.int .i64 0)), (.v (.string ⟨#[]⟩)), (.sl 0 0 true [])] = some [(.v (.int .i64 0)), (.v (.int .i64 0)), (.v (.string ⟨#[]⟩)), (.sl 0 0 true [])] := rfl
theorem ADelD_Apply_10 {τ : Operand → AV} : fillAV τ [] [(.v (.int .i64 0)), (.v (.int .i64 0)), (.v (.string ⟨#[]⟩)), (.sl 0 0 true [])] = some [(.v (.int .i64 0)), (.v (.int .i64 0)), (.v (.string ⟨#[]⟩)), (.sl 0 0 true [])] := rfl
theorem ADelD_tk0_6 {a0 a1 a2 a3 a4 a5 : AV} {l : List AV} : ((a0 :: a1 :: a2 :: a3 :: a4 :: a5 :: l).drop 0).take 6 = [a0, a1, a2, a3, a4, a5] := rfl
end
/-- delta.Patched -/
def c36 : AC := (.seq (.reg [⟨(some 2), none, (.box 26 4 (.tmp 0))⟩, ⟨(some 3), none, (.box 28 6 (.tmp 1))⟩, ⟨(some 4), none, (.new 26 4 [(.v (.int .i64 0)), (.v (.int .i64 0)), (.v (.string ⟨#[]⟩)), (.sl 0 0 true [])])⟩, ⟨(some 5), none, (.mv (.const (.int .i64 0)))⟩]) (.seq (.reg [⟨(some 9), none, (.fa 3 (.tmp 2))⟩, ⟨(some 10), none, (.load false 1 (.tmp 9))⟩, ⟨(some 11), none, (.len false (.tmp 10))⟩, ⟨(some 6), none, (.mv (.tmp 11))⟩]) (.seq (.block 0 (.seq (.reg [⟨(some 13), none, (.fa 3 (.tmp 3))⟩, ⟨(some 14), none, (.load false 1 (.tmp 13))⟩, ⟨(some 15), none, (.bin .lss (.tmp 14) (.const (.int .i64 0)))⟩, ⟨(some 16), none, (.mv (.tmp 15))⟩, ⟨(some 17), (some (16, false)), (.fa 4 (.tmp 3))⟩, ⟨(some 18), (some (16, false)), (.load false 1 (.tmp 17))⟩, ⟨(some 19), (some (16, false)), (.bin .lss (.tmp 18) (.const (.int .i64 0)))⟩, ⟨(some 20), none, (.pick (.tmp 16) (.const (.bool true)) (.tmp 19))⟩, ⟨(some 21), none, (.mv (.tmp 20))⟩, ⟨(some 22), (some (21, false)), (.fa 3 (.tmp 3))⟩, ⟨(some 23), (some (21, false)), (.load false 1 (.tmp 22))⟩, ⟨(some 24), (some (21, false)), (.mv (.tmp 6))⟩, ⟨(some 25), (some (21, false)), (.bin .gtr (.tmp 23) (.tmp 24))⟩, ⟨(some 26), none, (.pick (.tmp 21) (.const (.bool true)) (.tmp 25))⟩, ⟨(some 27), none, (.mv (.tmp 26))⟩, ⟨(some 28), (some (27, false)), (.fa 4 (.tmp 3))⟩, ⟨(some 29), (some (27, false)), (.load false 1 (.tmp 28))⟩, ⟨(some 30), (some (27, false)), (.mv (.tmp 6))⟩, ⟨(some 31), (some (27, false)), (.fa 3 (.tmp 3))⟩, ⟨(some 32), (some (27, false)), (.load false 1 (.tmp 31))⟩, ⟨(some 33), (some (27, false)), (.bin .sub (.tmp 30) (.tmp 32))⟩, ⟨(some 34), (some (27, false)), (.bin .gtr (.tmp 29) (.tmp 33))⟩, ⟨(some 35), none, (.pick (.tmp 27) (.const (.bool true)) (.tmp 34))⟩, ⟨(some 12), none, (.mv (.tmp 35))⟩]) (.cond (.tmp 12) (.seq (.reg [⟨(some 36), none, (.build [(.v (.int .i64 0)), (.v (.int .i64 0)), (.v (.string ⟨#[]⟩)), (.sl 0 0 true [])] [])⟩, ⟨none, none, (.store 4 (.tmp 4) (.tmp 36))⟩, ⟨(some 5), none, (.mv (.const (.int .i64 3)))⟩]) .ret) (.seq (.reg [⟨(some 38), none, (.fa 5 (.tmp 3))⟩, ⟨(some 39), none, (.load false 1 (.tmp 38))⟩, ⟨(some 40), none, (.len false (.tmp 39))⟩, ⟨(some 41), none, (.bin .gtr (.tmp 40) (.const (.int .i64 1000)))⟩, ⟨(some 37), none, (.mv (.tmp 41))⟩]) (.cond (.tmp 37) (.seq (.reg [⟨(some 42), none, (.build [(.v (.int .i64 0)), (.v (.int .i64 0)), (.v (.string ⟨#[]⟩)), (.sl 0 0 true [])] [])⟩, ⟨none, none, (.store 4 (.tmp 4) (.tmp 42))⟩, ⟨(some 5), none, (.mv (.const (.int .i64 2)))⟩]) .ret) .skip))))) (.seq (.drw [⟨(some 43), none, (.fa 0 (.tmp 3))⟩, ⟨(some 44), none, (.load true 3 (.tmp 43))⟩, ⟨(some 45), none, (.fa 3 (.tmp 2))⟩, ⟨(some 46), none, (.load false 1 (.tmp 45))⟩, ⟨(some 47), none, (.fa 3 (.tmp 3))⟩, ⟨(some 48), none, (.load false 1 (.tmp 47))⟩, ⟨(some 49), none, (.slc 4 (.tmp 46) none (some (.tmp 48)) none)⟩, ⟨(some 50), none, (.fa 5 (.tmp 3))⟩, ⟨(some 51), none, (.load false 1 (.tmp 50))⟩, ⟨(some 52), none, (.fa 3 (.tmp 2))⟩, ⟨(some 53), none, (.load false 1 (.tmp 52))⟩, ⟨(some 54), none, (.mv (.tmp 6))⟩, ⟨(some 55), none, (.fa 4 (.tmp 3))⟩, ⟨(some 56), none, (.load false 1 (.tmp 55))⟩, ⟨(some 57), none, (.bin .sub (.tmp 54) (.tmp 56))⟩, ⟨(some 58), none, (.slc 4 (.tmp 53) (some (.tmp 57)) none none)⟩, ⟨(some 59), none, (.lit 24 1 3 [(.sl 0 0 true []), (.sl 0 0 true []), (.sl 0 0 true [])] [(0, (1, (.tmp 49))), (1, (1, (.tmp 51))), (2, (1, (.tmp 58)))])⟩, ⟨(some 60), none, (.call (.func 62) [(.tmp 59)])⟩, ⟨(some 61), none, (.build [(.v (.int .i64 0)), (.v (.int .i64 0)), (.v (.string ⟨#[]⟩)), (.sl 0 0 true [])] [(0, (3, (.tmp 44))), (3, (1, (.tmp 60)))])⟩, ⟨(some 7), none, (.new 26 4 [(.v (.int .i64 0)), (.v (.int .i64 0)), (.v (.string ⟨#[]⟩)), (.sl 0 0 true [])])⟩] [⟨none, none, (.store 4 (.tmp 7) (.tmp 61))⟩]) (.seq (.seq (.reg [⟨(some 62), none, (.load true 4 (.tmp 7))⟩, ⟨(some 63), none, (.call (.func 35) [(.tmp 62)])⟩, ⟨(some 8), none, (.mv (.tmp 63))⟩]) (.seq (.reg [⟨(some 64), none, (.mv (.tmp 8))⟩, ⟨(some 65), none, (.bin .neq (.tmp 64) (.const (.int .i64 0)))⟩]) (.cond (.tmp 65) (.seq (.reg [⟨(some 66), none, (.build [(.v (.int .i64 0)), (.v (.int .i64 0)), (.v (.string ⟨#[]⟩)), (.sl 0 0 true [])] [])⟩, ⟨(some 67), none, (.mv (.tmp 8))⟩, ⟨none, none, (.store 4 (.tmp 4) (.tmp 66))⟩, ⟨(some 5), none, (.mv (.tmp 67))⟩]) .ret) .skip))) (.seq (.reg [⟨(some 68), none, (.load true 4 (.tmp 7))⟩, ⟨none, none, (.store 4 (.tmp 4) (.tmp 68))⟩, ⟨(some 5), none, (.mv (.const (.int .i64 0)))⟩]) .ret))))))
theorem k36 : compF Try.prog 36 = some ⟨c36, [(.cell 4 true 4), (.tmp 5)], 69⟩ := by kernel_rfl
theorem i36 {a0 a1 : AV} {h : AH} {R : AE → Prop} (hw : ∀ n, h.length = n → (∀ e ∈ h, e.lt n = true) → AV.ltL n [a0, a1] = true → AV.bdL [a0, a1] → aw Try.prog n c36 (retA [(.cell 4 true 4), (.tmp 5)] fun x h' => ∃ z, h' = h ++ z ∧ x.lt n = true ∧ R x) [a0, a1, .any, .any, .any, .any, .any, .any, .any, .any, .any, .any, .any, .any, .any, .any, .any, .any, .any, .any, .any, .any, .any, .any, .any, .any, .any, .any, .any, .any, .any, .any, .any, .any, .any, .any, .any, .any, .any, .any, .any, .any, .any, .any, .any, .any, .any, .any, .any, .any, .any, .any, .any, .any, .any, .any, .any, .any, .any, .any, .any, .any, .any, .any, .any, .any, .any, .any, .any] (h ++ [])) : ACalls Try.prog 36 [a0, a1] h fun x h' => h' = h ∧ R x := ACalls.into k36 rfl hw
theorem w36 {a0 a1 : AV} {h : AH} {res : AV} (hw : ∀ n, h.length = n → (∀ e ∈ h, e.lt n = true) → AV.ltL n [a0, a1] = true → AV.bdL [a0, a1] → aw Try.prog n c36 (retA [(.cell 4 true 4), (.tmp 5)] fun x h' => ∃ z, h' = h ++ z ∧ x.lt n = true ∧ ∃ c, x = .ret c ∧ Wk c res) [a0, a1, .any, .any, .any, .any, .any, .any, .any, .any, .any, .any, .any, .any, .any, .any, .any, .any, .any, .any, .any, .any, .any, .any, .any, .any, .any, .any, .any, .any, .any, .any, .any, .any, .any, .any, .any, .any, .any, .any, .any, .any, .any, .any, .any, .any, .any, .any, .any, .any, .any, .any, .any, .any, .any, .any, .any, .any, .any, .any, .any, .any, .any, .any, .any, .any, .any, .any, .any] (h ++ [])) : ACalls Try.prog 36 [a0, a1] h fun x h' => h' = h ∧ x = .ret res := ACalls.weak (ACalls.into k36 rfl hw)
theorem n36 {a0 a1 : AV} {h : AH} {R : AE → AH → Prop} (hw : ∀ n, h.length = n → (∀ e ∈ h, e.lt n = true) → AV.ltL n [a0, a1] = true → AV.bdL [a0, a1] → aw Try.prog n c36 (retA [(.cell 4 true 4), (.tmp 5)] R) [a0, a1, .any, .any, .any, .any, .any, .any, .any, .any, .any, .any, .any, .any, .any, .any, .any, .any, .any, .any, .any, .any, .any, .any, .any, .any, .any, .any, .any, .any, .any, .any, .any, .any, .any, .any, .any, .any, .any, .any, .any, .any, .any, .any, .any, .any, .any, .any, .any, .any, .any, .any, .any, .any, .any, .any, .any, .any, .any, .any, .any, .any, .any, .any, .any, .any, .any, .any, .any] (h ++ [])) : ACalls Try.prog 36 [a0, a1] h R := ACalls.intoN k36 rfl hw
theorem j36 {a0 a1 : AV} {h : AH} {R : AE → AH → Prop} (hw : ∀ n, h.length = n → (∀ e ∈ h, e.lt n = true) → AV.ltL n [a0, a1] = true → AV.bdL [a0, a1] → aw Try.prog n c36 (retA [(.cell 4 true 4), (.tmp 5)] fun x h' => ∃ y z, h' = y ++ z ∧ y.length = n ∧ (∀ e ∈ y, e.lt n = true) ∧ x.lt n = true ∧ R x y) [a0, a1, .any, .any, .any, .any, .any, .any, .any, .any, .any, .any, .any, .any, .any, .any, .any, .any, .any, .any, .any, .any, .any, .any, .any, .any, .any, .any, .any, .any, .any, .any, .any, .any, .any, .any, .any, .any, .any, .any, .any, .any, .any, .any, .any, .any, .any, .any, .any, .any, .any, .any, .any, .any, .any, .any, .any, .any, .any, .any, .any, .any, .any, .any, .any, .any, .any, .any, .any] (h ++ [])) : ACalls Try.prog 36 [a0, a1] h R := ACalls.intoG k36 rfl hw
/-- delta.Apply -/
def c12 : AC := (.seq (.reg [⟨(some 2), none, (.box 26 4 (.tmp 0))⟩, ⟨(some 3), none, (.box 28 6 (.tmp 1))⟩, ⟨(some 4), none, (.new 26 4 [(.v (.int .i64 0)), (.v (.int .i64 0)), (.v (.string ⟨#[]⟩)), (.sl 0 0 true [])])⟩, ⟨(some 5), none, (.mv (.const (.int .i64 0)))⟩]) (.seq (.seq (.reg [⟨(some 7), none, (.load true 4 (.tmp 2))⟩, ⟨(some 8), none, (.call (.func 35) [(.tmp 7)])⟩, ⟨(some 6), none, (.mv (.tmp 8))⟩]) (.seq (.reg [⟨(some 9), none, (.mv (.tmp 6))⟩, ⟨(some 10), none, (.bin .neq (.tmp 9) (.const (.int .i64 0)))⟩]) (.cond (.tmp 10) (.seq (.reg [⟨(some 11), none, (.build [(.v (.int .i64 0)), (.v (.int .i64 0)), (.v (.string ⟨#[]⟩)), (.sl 0 0 true [])] [])⟩, ⟨(some 12), none, (.mv (.tmp 6))⟩, ⟨none, none, (.store 4 (.tmp 4) (.tmp 11))⟩, ⟨(some 5), none, (.mv (.tmp 12))⟩]) .ret) .skip))) (.seq (.reg [⟨(some 13), none, (.load true 4 (.tmp 2))⟩, ⟨(some 14), none, (.load true 6 (.tmp 3))⟩, ⟨(some 15), none, (.call (.func 36) [(.tmp 13), (.tmp 14)])⟩, ⟨(some 16), none, (.ext (.tmp 15) 0)⟩, ⟨(some 17), none, (.ext (.tmp 15) 1)⟩, ⟨none, none, (.store 4 (.tmp 4) (.tmp 16))⟩, ⟨(some 5), none, (.mv (.tmp 17))⟩]) .ret)))
theorem k12 : compF Try.prog 12 = some ⟨c12, [(.cell 4 true 4), (.tmp 5)], 18⟩ := by kernel_rfl
theorem i12 {a0 a1 : AV} {h : AH} {R : AE → Prop} (hw : ∀ n, h.length = n → (∀ e ∈ h, e.lt n = true) → AV.ltL n [a0, a1] = true → AV.bdL [a0, a1] → aw Try.prog n c12 (retA [(.cell 4 true 4), (.tmp 5)] fun x h' => ∃ z, h' = h ++ z ∧ x.lt n = true ∧ R x) [a0, a1, .any, .any, .any, .any, .any, .any, .any, .any, .any, .any, .any, .any, .any, .any, .any, .any] (h ++ [])) : ACalls Try.prog 12 [a0, a1] h fun x h' => h' = h ∧ R x := ACalls.into k12 rfl hw
theorem w12 {a0 a1 : AV} {h : AH} {res : AV} (hw : ∀ n, h.length = n → (∀ e ∈ h, e.lt n = true) → AV.ltL n [a0, a1] = true → AV.bdL [a0, a1] → aw Try.prog n c12 (retA [(.cell 4 true 4), (.tmp 5)] fun x h' => ∃ z, h' = h ++ z ∧ x.lt n = true ∧ ∃ c, x = .ret c ∧ Wk c res) [a0, a1, .any, .any, .any, .any, .any, .any, .any, .any, .any, .any, .any, .any, .any, .any, .any, .any] (h ++ [])) : ACalls Try.prog 12 [a0, a1] h fun x h' => h' = h ∧ x = .ret res := ACalls.weak (ACalls.into k12 rfl hw)
theorem n12 {a0 a1 : AV} {h : AH} {R : AE → AH → Prop} (hw : ∀ n, h.length = n → (∀ e ∈ h, e.lt n = true) → AV.ltL n [a0, a1] = true → AV.bdL [a0, a1] → aw Try.prog n c12 (retA [(.cell 4 true 4), (.tmp 5)] R) [a0, a1, .any, .any, .any, .any, .any, .any, .any, .any, .any, .any, .any, .any, .any, .any, .any, .any] (h ++ [])) : ACalls Try.prog 12 [a0, a1] h R := ACalls.intoN k12 rfl hw
theorem j12 {a0 a1 : AV} {h : AH} {R : AE → AH → Prop} (hw : ∀ n, h.length = n → (∀ e ∈ h, e.lt n = true) → AV.ltL n [a0, a1] = true → AV.bdL [a0, a1] → aw Try.prog n c12 (retA [(.cell 4 true 4), (.tmp 5)] fun x h' => ∃ y z, h' = y ++ z ∧ y.length = n ∧ (∀ e ∈ y, e.lt n = true) ∧ x.lt n = true ∧ R x y) [a0, a1, .any, .any, .any, .any, .any, .any, .any, .any, .any, .any, .any, .any, .any, .any, .any, .any] (h ++ [])) : ACalls Try.prog 12 [a0, a1] h R := ACalls.intoG k12 rfl hw
def offP (t : Tab) (p : Pat) : Prop := p.2.1 < 0 ∨ p.2.2.1 < 0 ∨ (t.2.length : Int) < p.2.1 ∨ (t.2.length : Int) - p.2.1 < p.2.2.1
instance (t : Tab) (p : Pat) : Decidable (offP t p) := by unfold offP; infer_instance
abbrev outL (t : Tab) (p : Pat) : List (List Chg) := [t.2.take p.2.1.toNat, p.2.2.2, t.2.drop ((t.2.length : Int) - p.2.2.1).toNat]
def outT (t : Tab) (p : Pat) : Tab := (p.1, (outL t p).flatten)
def patE (t : Tab) (p : Pat) : Int := if offP t p then 3 else if 1000 < p.2.2.2.length then 2 else checkT (outT t p)
def patV (t : Tab) (p : Pat) : Tab := if patE t p = 0 then outT t p else noTab
def okP (p : Pat) : Prop := p.1.2.2.size ≤ maxLen ∧ ∀ x ∈ p.2.2.2, x.2.2.2.size ≤ maxLen
theorem okT_out {t : Tab} {p : Pat} (ht : okT t) (hp : okP p) : okT (outT t p) := by
  refine ⟨hp.1, fun x hx => ?_⟩
  simp only [outT, List.flatten_cons, List.flatten_nil, List.append_nil, List.mem_append] at hx
  rcases hx with h | h | h
  · exact ht.2 x (List.mem_of_mem_take h)
  · exact hp.2 x h
  · exact ht.2 x (List.mem_of_mem_drop h)
theorem out_len {t : Tab} {p : Pat} : (outL t p).flatten.length ≤ t.2.length + p.2.2.2.length + t.2.length := by
  simp only [List.flatten_cons, List.flatten_nil, List.append_nil, List.length_append, List.length_take, List.length_drop]
  omega
theorem patched_a {t : Tab} {p : Pat} {f1 f2 : Bool} {h : AH} (h1 : t.2.length ≤ 1000) (ht : okT t) (hp : okP p) :
    ACalls Try.prog 36 [.agg [iv t.1.1, iv t.1.2.1, sv t.1.2.2, .sl t.2.length 4 f1 (rows chgC t.2)], .agg [iv p.1.1, iv p.1.2.1, sv p.1.2.2, iv p.2.1, iv p.2.2.1, .sl p.2.2.2.length 4 f2 (rows chgC p.2.2.2)]] h fun x h' => h' = h ∧ x = .ret (.tup [tabA (patV t p), iv (patE t p)]) := by
  refine ACalls.wk (wkw (Wk.agg (wk1 rfl (wk1 rfl (wk1 rfl (wkw Wk.full wk0))))) (wkw (Wk.agg (wk1 rfl (wk1 rfl (wk1 rfl (wk1 rfl (wk1 rfl (wkw Wk.full wk0))))))) wk0)) ?_
  have hz : Wk (.agg [.v (.int .i64 0), .v (.int .i64 0), .v (.string ⟨#[]⟩), .sl 0 0 true []]) (tabA noTab) := Wk.agg (wk1 rfl (wk1 rfl (wk1 rfl (wkw Wk.nilF wk0))))
  have ho := okT_out ht hp
  have hl := out_len (t := t) (p := p)
  refine w36 ?_
  intro N hn hlt hlA hbd
  try simp only [AV.bdL, AV.bd, and_true, true_and] at hbd
  refine w_seq ?_
  refine w_reg ?_
  refine s_eff rfl rfl (e_box (cvl lk0 rfl) rfl (hl0 hn) ha0) pt2 ?_
  refine s_eff rfl rfl (e_box (cvl lk1 rfl) rfl (hl1 hn) ha1) pt3 ?_
  refine s_eff rfl rfl (e_new (hl2 hn) ha2) pt4 ?_
  refine s_val rfl (v_mv lki) pt5 ?_
  refine s_nil ?_
  refine n_seq ?_
  refine w_seq ?_
  refine w_reg ?_
  refine s_val rfl (v_fap0 lk2) pt9 ?_
  refine s_val rfl (v_loadp lk9 (hga hn rfl) gt3) pt10 ?_
  refine s_val rfl (v_lenL lk10) pt11 ?_
  refine s_val rfl (v_mv lk11) pt6 ?_
  refine s_nil ?_
  refine n_seq ?_
  refine w_seq ?_
  refine w_block ?_
  refine w_seq ?_
  refine w_reg ?_
  refine s_val rfl (v_fap0 lk3) pt13 ?_
  refine s_val rfl (v_loadp lk13 (hga hn rfl) gt3) pt14 ?_
  refine s_val rfl (v_lss lk14 lki) pt15 ?_
  refine s_val rfl (v_mv lk15) pt16 ?_
  first | refine s_splitP gt16 pt16 pt16 (fun hg16 => ?_) (fun hg16 => ?_) | refine s_splitB gt16 pt16 pt16 (fun hg16 => ?_) (fun hg16 => ?_)
  · skip
    refine s_no gt16 pt17 ?_
    refine s_no gt16 pt18 ?_
    refine s_no gt16 pt19 ?_
    refine s_val rfl (v_pickT lk16 lkb) pt20 ?_
    refine s_val rfl (v_mv lk20) pt21 ?_
    refine s_no gt21 pt22 ?_
    refine s_no gt21 pt23 ?_
    refine s_no gt21 pt24 ?_
    refine s_no gt21 pt25 ?_
    refine s_val rfl (v_pickT lk21 lkb) pt26 ?_
    refine s_val rfl (v_mv lk26) pt27 ?_
    refine s_no gt27 pt28 ?_
    refine s_no gt27 pt29 ?_
    refine s_no gt27 pt30 ?_
    refine s_no gt27 pt31 ?_
    refine s_no gt27 pt32 ?_
    refine s_no gt27 pt33 ?_
    refine s_no gt27 pt34 ?_
    refine s_val rfl (v_pickT lk27 lkb) pt35 ?_
    refine s_val rfl (v_mv lk35) pt12 ?_
    refine s_nil ?_
    refine n_seq ?_
    refine w_condT lk12 ?_
    refine w_seq ?_
    refine w_reg ?_
    refine s_val rfl (v_build ADelD_Patched_33) pt36 ?_
    refine s_eff rfl rfl (e_store lk4 (cvl lk36 rfl) (hga hn rfl) rfl (Nat.le_of_ble_eq_true rfl) rfl ADelD_sc0_4 (hs2 hn)) ptn ?_
    refine s_val rfl (v_mv lki) pt5 ?_
    refine s_nil ?_
    refine n_seq ?_
    refine w_rets ?_
    refine r_blk ?_
    refine r_thn ?_
    refine w_ret (rsn (rm1 (rr_c gt4 (hga hn rfl) (ld1 ADelD_tk0_4 rfl)) (rm1 (rr_t gt5) rm0))) ?_
    refine rtw (by first | rfl | (simp only [AV.lt, AV.ltL, Ent.lt, List.all_cons, List.all_nil, Bool.and_true, Bool.and_self, decide_true, chg_lt]; done) | (simp [AV.lt, AV.ltL, Ent.lt, chg_lt, *]; done) | (simp [AV.lt, AV.ltL, Ent.lt, chg_lt, *]; omega)) ?_
    have hE : patE t p = 3 := if_pos (by unfold offP; omega)
    rw [patV, if_neg (by rw [hE]; decide), hE]
    exact Wk.tup (wkw hz (wk1 rfl wk0))
  · skip
    refine s_do gt16 ?_
    refine s_val rfl (v_fap0 lk3) pt17 ?_
    refine s_do gt16 ?_
    refine s_val rfl (v_loadp lk17 (hga hn rfl) gt4) pt18 ?_
    refine s_do gt16 ?_
    refine s_val rfl (v_lss lk18 lki) pt19 ?_
    refine s_val rfl (v_pickF lk16 lk19) pt20 ?_
    refine s_val rfl (v_mv lk20) pt21 ?_
    first | refine s_splitP gt21 pt21 pt21 (fun hg21 => ?_) (fun hg21 => ?_) | refine s_splitB gt21 pt21 pt21 (fun hg21 => ?_) (fun hg21 => ?_)
    · skip
      refine s_no gt21 pt22 ?_
      refine s_no gt21 pt23 ?_
      refine s_no gt21 pt24 ?_
      refine s_no gt21 pt25 ?_
      refine s_val rfl (v_pickT lk21 lkb) pt26 ?_
      refine s_val rfl (v_mv lk26) pt27 ?_
      refine s_no gt27 pt28 ?_
      refine s_no gt27 pt29 ?_
      refine s_no gt27 pt30 ?_
      refine s_no gt27 pt31 ?_
      refine s_no gt27 pt32 ?_
      refine s_no gt27 pt33 ?_
      refine s_no gt27 pt34 ?_
      refine s_val rfl (v_pickT lk27 lkb) pt35 ?_
      refine s_val rfl (v_mv lk35) pt12 ?_
      refine s_nil ?_
      refine n_seq ?_
      refine w_condT lk12 ?_
      refine w_seq ?_
      refine w_reg ?_
      refine s_val rfl (v_build ADelD_Patched_33) pt36 ?_
      refine s_eff rfl rfl (e_store lk4 (cvl lk36 rfl) (hga hn rfl) rfl (Nat.le_of_ble_eq_true rfl) rfl ADelD_sc0_4 (hs2 hn)) ptn ?_
      refine s_val rfl (v_mv lki) pt5 ?_
      refine s_nil ?_
      refine n_seq ?_
      refine w_rets ?_
      refine r_blk ?_
      refine r_thn ?_
      refine w_ret (rsn (rm1 (rr_c gt4 (hga hn rfl) (ld1 ADelD_tk0_4 rfl)) (rm1 (rr_t gt5) rm0))) ?_
      refine rtw (by first | rfl | (simp only [AV.lt, AV.ltL, Ent.lt, List.all_cons, List.all_nil, Bool.and_true, Bool.and_self, decide_true, chg_lt]; done) | (simp [AV.lt, AV.ltL, Ent.lt, chg_lt, *]; done) | (simp [AV.lt, AV.ltL, Ent.lt, chg_lt, *]; omega)) ?_
      have hE : patE t p = 3 := if_pos (by unfold offP; omega)
      rw [patV, if_neg (by rw [hE]; decide), hE]
      exact Wk.tup (wkw hz (wk1 rfl wk0))
    · skip
      refine s_do gt21 ?_
      refine s_val rfl (v_fap0 lk3) pt22 ?_
      refine s_do gt21 ?_
      refine s_val rfl (v_loadp lk22 (hga hn rfl) gt3) pt23 ?_
      refine s_do gt21 ?_
      refine s_val rfl (v_mv lk6) pt24 ?_
      refine s_do gt21 ?_
      refine s_val rfl (v_gtr lk23 lk24) pt25 ?_
      refine s_val rfl (v_pickF lk21 lk25) pt26 ?_
      refine s_val rfl (v_mv lk26) pt27 ?_
      first | refine s_splitP gt27 pt27 pt27 (fun hg27 => ?_) (fun hg27 => ?_) | refine s_splitB gt27 pt27 pt27 (fun hg27 => ?_) (fun hg27 => ?_)
      · skip
        refine s_no gt27 pt28 ?_
        refine s_no gt27 pt29 ?_
        refine s_no gt27 pt30 ?_
        refine s_no gt27 pt31 ?_
        refine s_no gt27 pt32 ?_
        refine s_no gt27 pt33 ?_
        refine s_no gt27 pt34 ?_
        refine s_val rfl (v_pickT lk27 lkb) pt35 ?_
        refine s_val rfl (v_mv lk35) pt12 ?_
        refine s_nil ?_
        refine n_seq ?_
        refine w_condT lk12 ?_
        refine w_seq ?_
        refine w_reg ?_
        refine s_val rfl (v_build ADelD_Patched_33) pt36 ?_
        refine s_eff rfl rfl (e_store lk4 (cvl lk36 rfl) (hga hn rfl) rfl (Nat.le_of_ble_eq_true rfl) rfl ADelD_sc0_4 (hs2 hn)) ptn ?_
        refine s_val rfl (v_mv lki) pt5 ?_
        refine s_nil ?_
        refine n_seq ?_
        refine w_rets ?_
        refine r_blk ?_
        refine r_thn ?_
        refine w_ret (rsn (rm1 (rr_c gt4 (hga hn rfl) (ld1 ADelD_tk0_4 rfl)) (rm1 (rr_t gt5) rm0))) ?_
        refine rtw (by first | rfl | (simp only [AV.lt, AV.ltL, Ent.lt, List.all_cons, List.all_nil, Bool.and_true, Bool.and_self, decide_true, chg_lt]; done) | (simp [AV.lt, AV.ltL, Ent.lt, chg_lt, *]; done) | (simp [AV.lt, AV.ltL, Ent.lt, chg_lt, *]; omega)) ?_
        have hE : patE t p = 3 := if_pos (by unfold offP; omega)
        rw [patV, if_neg (by rw [hE]; decide), hE]
        exact Wk.tup (wkw hz (wk1 rfl wk0))
      · skip
        refine s_do gt27 ?_
        refine s_val rfl (v_fap0 lk3) pt28 ?_
        refine s_do gt27 ?_
        refine s_val rfl (v_loadp lk28 (hga hn rfl) gt4) pt29 ?_
        refine s_do gt27 ?_
        refine s_val rfl (v_mv lk6) pt30 ?_
        refine s_do gt27 ?_
        refine s_val rfl (v_fap0 lk3) pt31 ?_
        refine s_do gt27 ?_
        refine s_val rfl (v_loadp lk31 (hga hn rfl) gt3) pt32 ?_
        refine s_do gt27 ?_
        refine s_val rfl (v_sub lk30 lk32 (by omega) (by omega)) pt33 ?_
        refine s_do gt27 ?_
        refine s_val rfl (v_gtr lk29 lk33) pt34 ?_
        refine s_val rfl (v_pickF lk27 lk34) pt35 ?_
        refine s_val rfl (v_mv lk35) pt12 ?_
        refine s_nil ?_
        refine n_seq ?_
        first | refine w_cond lk12 (fun hc1 => ?_) (fun hc1 => ?_) | refine w_condB lk12 (fun hc1 => ?_) (fun hc1 => ?_)
        · skip
          refine w_seq ?_
          refine w_reg ?_
          refine s_val rfl (v_build ADelD_Patched_33) pt36 ?_
          refine s_eff rfl rfl (e_store lk4 (cvl lk36 rfl) (hga hn rfl) rfl (Nat.le_of_ble_eq_true rfl) rfl ADelD_sc0_4 (hs2 hn)) ptn ?_
          refine s_val rfl (v_mv lki) pt5 ?_
          refine s_nil ?_
          refine n_seq ?_
          refine w_rets ?_
          refine r_blk ?_
          refine r_thn ?_
          refine w_ret (rsn (rm1 (rr_c gt4 (hga hn rfl) (ld1 ADelD_tk0_4 rfl)) (rm1 (rr_t gt5) rm0))) ?_
          refine rtw (by first | rfl | (simp only [AV.lt, AV.ltL, Ent.lt, List.all_cons, List.all_nil, Bool.and_true, Bool.and_self, decide_true, chg_lt]; done) | (simp [AV.lt, AV.ltL, Ent.lt, chg_lt, *]; done) | (simp [AV.lt, AV.ltL, Ent.lt, chg_lt, *]; omega)) ?_
          have hE : patE t p = 3 := if_pos (by unfold offP; omega)
          rw [patV, if_neg (by rw [hE]; decide), hE]
          exact Wk.tup (wkw hz (wk1 rfl wk0))
        · skip
          refine w_seq ?_
          refine w_reg ?_
          refine s_val rfl (v_fap0 lk3) pt38 ?_
          refine s_val rfl (v_loadp lk38 (hga hn rfl) gt5) pt39 ?_
          refine s_val rfl (v_lenL lk39) pt40 ?_
          refine s_val rfl (v_gtr lk40 lki) pt41 ?_
          refine s_val rfl (v_mv lk41) pt37 ?_
          refine s_nil ?_
          refine n_seq ?_
          first | refine w_cond lk37 (fun hc2 => ?_) (fun hc2 => ?_) | refine w_condB lk37 (fun hc2 => ?_) (fun hc2 => ?_)
          · skip
            refine w_seq ?_
            refine w_reg ?_
            refine s_val rfl (v_build ADelD_Patched_41) pt42 ?_
            refine s_eff rfl rfl (e_store lk4 (cvl lk42 rfl) (hga hn rfl) rfl (Nat.le_of_ble_eq_true rfl) rfl ADelD_sc0_4 (hs2 hn)) ptn ?_
            refine s_val rfl (v_mv lki) pt5 ?_
            refine s_nil ?_
            refine n_seq ?_
            refine w_rets ?_
            refine r_blk ?_
            refine r_thn ?_
            refine w_ret (rsn (rm1 (rr_c gt4 (hga hn rfl) (ld1 ADelD_tk0_4 rfl)) (rm1 (rr_t gt5) rm0))) ?_
            refine rtw (by first | rfl | (simp only [AV.lt, AV.ltL, Ent.lt, List.all_cons, List.all_nil, Bool.and_true, Bool.and_self, decide_true, chg_lt]; done) | (simp [AV.lt, AV.ltL, Ent.lt, chg_lt, *]; done) | (simp [AV.lt, AV.ltL, Ent.lt, chg_lt, *]; omega)) ?_
            have hE : patE t p = 2 := by rw [patE, if_neg (by unfold offP; omega), if_pos (by omega)]
            rw [patV, if_neg (by rw [hE]; decide), hE]
            exact Wk.tup (wkw hz (wk1 rfl wk0))
          · skip
            refine w_skip ?_
            refine n_blk ?_
            refine n_seq ?_
            refine w_seq ?_
            refine w_drwE ?_
            refine d_val rfl (v_fap0 lk3) pt43 ?_
            refine d_val rfl (v_loadpA lk43 (hga hn rfl) ADelD_tk0_3 rfl) pt44 ?_
            refine d_val rfl (v_fap0 lk2) pt45 ?_
            refine d_val rfl (v_loadp lk45 (hga hn rfl) gt3) pt46 ?_
            refine d_val rfl (v_fap0 lk3) pt47 ?_
            refine d_val rfl (v_loadp lk47 (hga hn rfl) gt3) pt48 ?_
            refine d_val rfl (v_hi (k := p.2.1.toNat) lk46 lk48 chg_len1 (by first | rfl | omega) (by omega) (by first | rfl | omega)) pt49 ?_
            refine d_val rfl (v_fap0 lk3) pt50 ?_
            refine d_val rfl (v_loadp lk50 (hga hn rfl) gt5) pt51 ?_
            refine d_val rfl (v_fap0 lk2) pt52 ?_
            refine d_val rfl (v_loadp lk52 (hga hn rfl) gt3) pt53 ?_
            refine d_val rfl (v_mv lk6) pt54 ?_
            refine d_val rfl (v_fap0 lk3) pt55 ?_
            refine d_val rfl (v_loadp lk55 (hga hn rfl) gt4) pt56 ?_
            refine d_val rfl (v_sub lk54 lk56 (by omega) (by omega)) pt57 ?_
            refine d_val rfl (v_lo (k := ((t.2.length : Int) - p.2.2.1).toNat) lk53 lk57 chg_len1 (by first | rfl | omega) (by omega) (by first | rfl | omega)) pt58 ?_
            refine d_effI rfl rfl (hlk hn rfl) (l_litI (ADelD_Patched_60 (cvl lk49 rfl) rfl (cvl lk51 rfl) rfl (cvl lk58 rfl) rfl) rfl) pt59 ADelD_lap0 ?_
            refine d_callp (mp1 lk59 mp0) (fun _ _ => concat_a (ls := outL t p) (by omega)) pt60 ?_
            refine d_val rfl (v_build (ADelD_Patched_62 (cvl lk44 rfl) rfl (cvl lk60 rfl) rfl)) pt61 ?_
            refine d_eff rfl rfl (hlk hn rfl) (l_new) pt7 ADelD_lap1 ?_
            refine d_nil ?_
            refine e_ent ADelD_lj3_2 ?_
            refine s_eff rfl rfl (e_store lk7 (cvl lk61 rfl) (hga hn rfl) rfl (Nat.le_of_ble_eq_true rfl) rfl ADelD_sc0_4 (hs4 hn)) ptn ?_
            refine s_nil ?_
            refine n_seq ?_
            refine w_seq ?_
            refine w_seq ?_
            refine w_reg ?_
            refine s_val rfl (v_loadpA lk7 (hga hn rfl) ADelD_tk0_4 rfl) pt62 ?_
            refine s_callp (mp1 lk62 mp0) (check_a (l := (outL t p).flatten) ho.1 ho.2) pt63 ?_
            refine s_val rfl (v_mv lk63) pt8 ?_
            refine s_nil ?_
            refine n_seq ?_
            refine w_seq ?_
            refine w_reg ?_
            refine s_val rfl (v_mv lk8) pt64 ?_
            refine s_val rfl (v_neq lk64 lki) pt65 ?_
            refine s_nil ?_
            refine n_seq ?_
            first | refine w_cond lk65 (fun hc3 => ?_) (fun hc3 => ?_) | refine w_condB lk65 (fun hc3 => ?_) (fun hc3 => ?_)
            · skip
              refine w_seq ?_
              refine w_reg ?_
              refine s_val rfl (v_build ADelD_Patched_70) pt66 ?_
              refine s_val rfl (v_mv lk8) pt67 ?_
              refine s_eff rfl rfl (e_store lk4 (cvl lk66 rfl) (hga hn rfl) rfl (Nat.le_of_ble_eq_true rfl) rfl ADelD_sc0_4 (hs2 hn)) ptn ?_
              refine s_val rfl (v_mv lk67) pt5 ?_
              refine s_nil ?_
              refine n_seq ?_
              refine w_rets ?_
              refine r_thn ?_
              refine w_ret (rsn (rm1 (rr_c gt4 (hga hn rfl) (ld1 ADelD_tk0_4 rfl)) (rm1 (rr_t gt5) rm0))) ?_
              refine rtw (by first | rfl | (simp only [AV.lt, AV.ltL, Ent.lt, List.all_cons, List.all_nil, Bool.and_true, Bool.and_self, decide_true, chg_lt]; done) | (simp [AV.lt, AV.ltL, Ent.lt, chg_lt, *]; done) | (simp [AV.lt, AV.ltL, Ent.lt, chg_lt, *]; omega)) ?_
              have hE : patE t p = checkT (outT t p) := by rw [patE, if_neg (by unfold offP; omega), if_neg (by omega)]
              rw [patV, if_neg (by rw [hE]; exact hc3), hE]
              exact Wk.tup (wkw hz (wk1 rfl wk0))
            · skip
              refine w_skip ?_
              refine n_seq ?_
              refine w_seq ?_
              refine w_reg ?_
              refine s_val rfl (v_loadpA lk7 (hga hn rfl) ADelD_tk0_4 rfl) pt68 ?_
              refine s_eff rfl rfl (e_store lk4 (cvl lk68 rfl) (hga hn rfl) rfl (Nat.le_of_ble_eq_true rfl) rfl ADelD_sc0_4 (hs2 hn)) ptn ?_
              refine s_val rfl (v_mv lki) pt5 ?_
              refine s_nil ?_
              refine n_seq ?_
              refine w_rets ?_
              refine w_ret (rsn (rm1 (rr_c gt4 (hga hn rfl) (ld1 ADelD_tk0_4 rfl)) (rm1 (rr_t gt5) rm0))) ?_
              refine rtw (by first | rfl | (simp only [AV.lt, AV.ltL, Ent.lt, List.all_cons, List.all_nil, Bool.and_true, Bool.and_self, decide_true, chg_lt]; done) | (simp [AV.lt, AV.ltL, Ent.lt, chg_lt, *]; done) | (simp [AV.lt, AV.ltL, Ent.lt, chg_lt, *]; omega)) ?_
              have hE : patE t p = 0 := by rw [patE, if_neg (by unfold offP; omega), if_neg (by omega)]; exact Decidable.of_not_not hc3
              rw [patV, if_pos hE, hE]
              exact Wk.refl _
def appE (t : Tab) (p : Pat) : Int := if checkT t ≠ 0 then checkT t else patE t p
def appV (t : Tab) (p : Pat) : Tab := if checkT t ≠ 0 then noTab else patV t p
theorem apply_a {t : Tab} {p : Pat} {f1 f2 : Bool} {h : AH} (ht : okT t) (hp : okP p) :
    ACalls Try.prog 12 [.agg [iv t.1.1, iv t.1.2.1, sv t.1.2.2, .sl t.2.length 4 f1 (rows chgC t.2)], .agg [iv p.1.1, iv p.1.2.1, sv p.1.2.2, iv p.2.1, iv p.2.2.1, .sl p.2.2.2.length 4 f2 (rows chgC p.2.2.2)]] h fun x h' => h' = h ∧ x = .ret (.tup [tabA (appV t p), iv (appE t p)]) := by
  have hz : Wk (.agg [.v (.int .i64 0), .v (.int .i64 0), .v (.string ⟨#[]⟩), .sl 0 0 true []]) (tabA noTab) := Wk.agg (wk1 rfl (wk1 rfl (wk1 rfl (wkw Wk.nilF wk0))))
  refine w12 ?_
  intro N hn hlt hlA hbd
  try simp only [AV.bdL, AV.bd, and_true, true_and] at hbd
  refine w_seq ?_
  refine w_reg ?_
  refine s_eff rfl rfl (e_box (cvl lk0 rfl) rfl (hl0 hn) ha0) pt2 ?_
  refine s_eff rfl rfl (e_box (cvl lk1 rfl) rfl (hl1 hn) ha1) pt3 ?_
  refine s_eff rfl rfl (e_new (hl2 hn) ha2) pt4 ?_
  refine s_val rfl (v_mv lki) pt5 ?_
  refine s_nil ?_
  refine n_seq ?_
  refine w_seq ?_
  refine w_seq ?_
  refine w_reg ?_
  refine s_val rfl (v_loadpA lk2 (hga hn rfl) ADelD_tk0_4 rfl) pt7 ?_
  refine s_callp (mp1 lk7 mp0) (check_a ht.1 ht.2) pt8 ?_
  refine s_val rfl (v_mv lk8) pt6 ?_
  refine s_nil ?_
  refine n_seq ?_
  refine w_seq ?_
  refine w_reg ?_
  refine s_val rfl (v_mv lk6) pt9 ?_
  refine s_val rfl (v_neq lk9 lki) pt10 ?_
  refine s_nil ?_
  refine n_seq ?_
  first | refine w_cond lk10 (fun hc1 => ?_) (fun hc1 => ?_) | refine w_condB lk10 (fun hc1 => ?_) (fun hc1 => ?_)
  · skip
    refine w_seq ?_
    refine w_reg ?_
    refine s_val rfl (v_build ADelD_Apply_10) pt11 ?_
    refine s_val rfl (v_mv lk6) pt12 ?_
    refine s_eff rfl rfl (e_store lk4 (cvl lk11 rfl) (hga hn rfl) rfl (Nat.le_of_ble_eq_true rfl) rfl ADelD_sc0_4 (hs2 hn)) ptn ?_
    refine s_val rfl (v_mv lk12) pt5 ?_
    refine s_nil ?_
    refine n_seq ?_
    refine w_rets ?_
    refine r_thn ?_
    refine w_ret (rsn (rm1 (rr_c gt4 (hga hn rfl) (ld1 ADelD_tk0_4 rfl)) (rm1 (rr_t gt5) rm0))) ?_
    refine rtw (by first | rfl | (simp only [AV.lt, AV.ltL, Ent.lt, List.all_cons, List.all_nil, Bool.and_true, Bool.and_self, decide_true, chg_lt]; done) | (simp [AV.lt, AV.ltL, Ent.lt, chg_lt, *]; done) | (simp [AV.lt, AV.ltL, Ent.lt, chg_lt, *]; omega)) ?_
    rw [appV, appE, if_pos hc1, if_pos hc1]; exact Wk.tup (wkw hz (wk1 rfl wk0))
  · skip
    refine w_skip ?_
    refine n_seq ?_
    refine w_seq ?_
    refine w_reg ?_
    refine s_val rfl (v_loadpA lk2 (hga hn rfl) ADelD_tk0_4 rfl) pt13 ?_
    refine s_val rfl (v_loadpA lk3 (hga hn rfl) ADelD_tk0_6 rfl) pt14 ?_
    refine s_callp (mp1 lk13 (mp1 lk14 mp0)) (patched_a (t := t) (p := p) (checkT_len (t := t) (Decidable.of_not_not hc1)) ht hp) pt15 ?_
    refine s_val rfl (v_ext lk15 gt0) pt16 ?_
    refine s_val rfl (v_ext lk15 gt1) pt17 ?_
    refine s_eff rfl rfl (e_store lk4 (cvl lk16 rfl) (hga hn rfl) rfl (Nat.le_of_ble_eq_true rfl) rfl ADelD_sc0_4 (hs2 hn)) ptn ?_
    refine s_val rfl (v_mv lk17) pt5 ?_
    refine s_nil ?_
    refine n_seq ?_
    refine w_rets ?_
    refine w_ret (rsn (rm1 (rr_c gt4 (hga hn rfl) (ld1 ADelD_tk0_4 rfl)) (rm1 (rr_t gt5) rm0))) ?_
    refine rtw (by first | rfl | (simp only [AV.lt, AV.ltL, Ent.lt, List.all_cons, List.all_nil, Bool.and_true, Bool.and_self, decide_true, chg_lt]; done) | (simp [AV.lt, AV.ltL, Ent.lt, chg_lt, *]; done) | (simp [AV.lt, AV.ltL, Ent.lt, chg_lt, *]; omega)) ?_
    rw [appV, appE, if_neg hc1, if_neg hc1]; exact Wk.refl _
end Go.Proofs.Ytmbebimingkfeaa
