/-
  Contracts on plain data: delta.Between and delta.Diff. Conditions: names are no longer than a text may be.
-/
import Derived.Test.YtmbebimingkfeaaADelA
set_option linter.unusedVariables false
set_option linter.unusedSimpArgs false
set_option maxRecDepth 100000
namespace Go.Proofs.Ytmbebimingkfeaa
open Go.Ab Civ
section
theorem ADelB_tk0_3 {a0 a1 a2 : AV} {l : List AV} : ((a0 :: a1 :: a2 :: l).drop 0).take 3 = [a0, a1, a2] := rfl
theorem ADelB_Between_11 {τ : Operand → AV} {y0 y1 : Operand} {x0_0 x0_1 x0_2 x1_0 : AV} (h0 : cellsV (τ y0) = some [x0_0, x0_1, x0_2]) (l0 : [x0_0, x0_1, x0_2].all leaf = true) (h1 : cellsV (τ y1) = some [x1_0]) (l1 : [x1_0].all leaf = true) : fillAV τ [(0, 3, y0), (3, 1, y1)] [(.v (.int .i64 0)), (.v (.int .i64 0)), (.v (.string ⟨#[]⟩)), (.v (.int .i64 0)), (.v (.int .i64 0)), (.sl 0 0 true [])] = some [x0_0, x0_1, x0_2, x1_0, (.v (.int .i64 0)), (.sl 0 0 true [])] := by
  simp only [fillAV, h0, l0, h1, l1]
  rfl
theorem ADelB_lap0 { e : Ent} : ([] : AH) ++ [e] = [e] := rfl
theorem ADelB_lj3_1 {e0 e1 e2 d0 : Ent} : ([e0, e1, e2] : AH) ++ [d0] = [e0, e1, e2, d0] := rfl
theorem ADelB_sc0_6 {a0 a1 a2 a3 a4 a5 c0 c1 c2 c3 c4 c5 : AV} {l : List AV} : setCells (a0 :: a1 :: a2 :: a3 :: a4 :: a5 :: l) 0 [c0, c1, c2, c3, c4, c5] = c0 :: c1 :: c2 :: c3 :: c4 :: c5 :: l := rfl
theorem ADelB_sc4_1 {a0 a1 a2 a3 a4 c0 : AV} {l : List AV} : setCells (a0 :: a1 :: a2 :: a3 :: a4 :: l) 4 [c0] = a0 :: a1 :: a2 :: a3 :: c0 :: l := rfl
theorem ADelB_sc5_1 {a0 a1 a2 a3 a4 a5 c0 : AV} {l : List AV} : setCells (a0 :: a1 :: a2 :: a3 :: a4 :: a5 :: l) 5 [c0] = a0 :: a1 :: a2 :: a3 :: a4 :: c0 :: l := rfl
theorem ADelB_tk0_6 {a0 a1 a2 a3 a4 a5 : AV} {l : List AV} : ((a0 :: a1 :: a2 :: a3 :: a4 :: a5 :: l).drop 0).take 6 = [a0, a1, a2, a3, a4, a5] := rfl
theorem ADelB_tk0_4 {a0 a1 a2 a3 : AV} {l : List AV} : ((a0 :: a1 :: a2 :: a3 :: l).drop 0).take 4 = [a0, a1, a2, a3] := rfl
theorem ADelB_Diff_7 {τ : Operand → AV} {y0 y1 : Operand} {x0_0 x0_1 x0_2 x0_3 x1_0 x1_1 x1_2 x1_3 : AV} (h0 : cellsV (τ y0) = some [x0_0, x0_1, x0_2, x0_3]) (l0 : [x0_0, x0_1, x0_2, x0_3].all leaf = true) (h1 : cellsV (τ y1) = some [x1_0, x1_1, x1_2, x1_3]) (l1 : [x1_0, x1_1, x1_2, x1_3].all leaf = true) : fillAV τ [(0, 4, y0), (4, 4, y1)] [(.v (.int .i64 0)), (.v (.int .i64 0)), (.v (.string ⟨#[]⟩)), (.sl 0 0 true []), (.v (.int .i64 0)), (.v (.int .i64 0)), (.v (.string ⟨#[]⟩)), (.sl 0 0 true [])] = some [x0_0, x0_1, x0_2, x0_3, x1_0, x1_1, x1_2, x1_3] := by
  simp only [fillAV, h0, l0, h1, l1]
  rfl
theorem ADelB_sc0_4 {a0 a1 a2 a3 c0 c1 c2 c3 : AV} {l : List AV} : setCells (a0 :: a1 :: a2 :: a3 :: l) 0 [c0, c1, c2, c3] = c0 :: c1 :: c2 :: c3 :: l := rfl
theorem ADelB_Diff_20 {τ : Operand → AV} : fillAV τ [] [(.v (.int .i64 0)), (.v (.int .i64 0)), (.v (.string ⟨#[]⟩)), (.v (.int .i64 0)), (.v (.int .i64 0)), (.sl 0 0 true [])] = some [(.v (.int .i64 0)), (.v (.int .i64 0)), (.v (.string ⟨#[]⟩)), (.v (.int .i64 0)), (.v (.int .i64 0)), (.sl 0 0 true [])] := rfl
end
/-- delta.Between -/
def c37 : AC := (.seq (.reg [⟨(some 2), none, (.box 26 4 (.tmp 0))⟩, ⟨(some 3), none, (.box 26 4 (.tmp 1))⟩, ⟨(some 4), none, (.new 28 6 [(.v (.int .i64 0)), (.v (.int .i64 0)), (.v (.string ⟨#[]⟩)), (.v (.int .i64 0)), (.v (.int .i64 0)), (.sl 0 0 true [])])⟩]) (.seq (.drw [⟨(some 6), none, (.fa 0 (.tmp 3))⟩, ⟨(some 7), none, (.load true 3 (.tmp 6))⟩, ⟨(some 8), none, (.fa 3 (.tmp 2))⟩, ⟨(some 9), none, (.load false 1 (.tmp 8))⟩, ⟨(some 10), none, (.fa 3 (.tmp 3))⟩, ⟨(some 11), none, (.load false 1 (.tmp 10))⟩, ⟨(some 12), none, (.call (.func 63) [(.tmp 9), (.tmp 11)])⟩, ⟨(some 13), none, (.build [(.v (.int .i64 0)), (.v (.int .i64 0)), (.v (.string ⟨#[]⟩)), (.v (.int .i64 0)), (.v (.int .i64 0)), (.sl 0 0 true [])] [(0, (3, (.tmp 7))), (3, (1, (.tmp 12)))])⟩, ⟨(some 5), none, (.new 28 6 [(.v (.int .i64 0)), (.v (.int .i64 0)), (.v (.string ⟨#[]⟩)), (.v (.int .i64 0)), (.v (.int .i64 0)), (.sl 0 0 true [])])⟩] [⟨none, none, (.store 6 (.tmp 5) (.tmp 13))⟩]) (.seq (.drw [⟨(some 14), none, (.fa 3 (.tmp 2))⟩, ⟨(some 15), none, (.load false 1 (.tmp 14))⟩, ⟨(some 16), none, (.fa 3 (.tmp 5))⟩, ⟨(some 17), none, (.load false 1 (.tmp 16))⟩, ⟨(some 18), none, (.slc 4 (.tmp 15) (some (.tmp 17)) none none)⟩, ⟨(some 19), none, (.call (.func 64) [(.tmp 18)])⟩, ⟨(some 20), none, (.fa 3 (.tmp 3))⟩, ⟨(some 21), none, (.load false 1 (.tmp 20))⟩, ⟨(some 22), none, (.fa 3 (.tmp 5))⟩, ⟨(some 23), none, (.load false 1 (.tmp 22))⟩, ⟨(some 24), none, (.slc 4 (.tmp 21) (some (.tmp 23)) none none)⟩, ⟨(some 25), none, (.call (.func 64) [(.tmp 24)])⟩, ⟨(some 26), none, (.call (.func 63) [(.tmp 19), (.tmp 25)])⟩, ⟨(some 27), none, (.fa 4 (.tmp 5))⟩] [⟨none, none, (.store 1 (.tmp 27) (.tmp 26))⟩]) (.seq (.reg [⟨(some 28), none, (.fa 3 (.tmp 3))⟩, ⟨(some 29), none, (.load false 1 (.tmp 28))⟩, ⟨(some 30), none, (.fa 3 (.tmp 5))⟩, ⟨(some 31), none, (.load false 1 (.tmp 30))⟩, ⟨(some 32), none, (.fa 3 (.tmp 3))⟩, ⟨(some 33), none, (.load false 1 (.tmp 32))⟩, ⟨(some 34), none, (.len false (.tmp 33))⟩, ⟨(some 35), none, (.fa 4 (.tmp 5))⟩, ⟨(some 36), none, (.load false 1 (.tmp 35))⟩, ⟨(some 37), none, (.bin .sub (.tmp 34) (.tmp 36))⟩, ⟨(some 38), none, (.slc 4 (.tmp 29) (some (.tmp 31)) (some (.tmp 37)) none)⟩, ⟨(some 39), none, (.call (.func 65) [(.tmp 38)])⟩, ⟨(some 40), none, (.fa 5 (.tmp 5))⟩, ⟨none, none, (.store 1 (.tmp 40) (.tmp 39))⟩]) (.seq (.reg [⟨(some 41), none, (.load true 6 (.tmp 5))⟩, ⟨none, none, (.store 6 (.tmp 4) (.tmp 41))⟩]) .ret)))))
theorem k37 : compF Try.prog 37 = some ⟨c37, [(.cell 4 true 6)], 42⟩ := by kernel_rfl
theorem i37 {a0 a1 : AV} {h : AH} {R : AE → Prop} (hw : ∀ n, h.length = n → (∀ e ∈ h, e.lt n = true) → AV.ltL n [a0, a1] = true → AV.bdL [a0, a1] → aw Try.prog n c37 (retA [(.cell 4 true 6)] fun x h' => ∃ z, h' = h ++ z ∧ x.lt n = true ∧ R x) [a0, a1, .any, .any, .any, .any, .any, .any, .any, .any, .any, .any, .any, .any, .any, .any, .any, .any, .any, .any, .any, .any, .any, .any, .any, .any, .any, .any, .any, .any, .any, .any, .any, .any, .any, .any, .any, .any, .any, .any, .any, .any] (h ++ [])) : ACalls Try.prog 37 [a0, a1] h fun x h' => h' = h ∧ R x := ACalls.into k37 rfl hw
theorem w37 {a0 a1 : AV} {h : AH} {res : AV} (hw : ∀ n, h.length = n → (∀ e ∈ h, e.lt n = true) → AV.ltL n [a0, a1] = true → AV.bdL [a0, a1] → aw Try.prog n c37 (retA [(.cell 4 true 6)] fun x h' => ∃ z, h' = h ++ z ∧ x.lt n = true ∧ ∃ c, x = .ret c ∧ Wk c res) [a0, a1, .any, .any, .any, .any, .any, .any, .any, .any, .any, .any, .any, .any, .any, .any, .any, .any, .any, .any, .any, .any, .any, .any, .any, .any, .any, .any, .any, .any, .any, .any, .any, .any, .any, .any, .any, .any, .any, .any, .any, .any] (h ++ [])) : ACalls Try.prog 37 [a0, a1] h fun x h' => h' = h ∧ x = .ret res := ACalls.weak (ACalls.into k37 rfl hw)
theorem n37 {a0 a1 : AV} {h : AH} {R : AE → AH → Prop} (hw : ∀ n, h.length = n → (∀ e ∈ h, e.lt n = true) → AV.ltL n [a0, a1] = true → AV.bdL [a0, a1] → aw Try.prog n c37 (retA [(.cell 4 true 6)] R) [a0, a1, .any, .any, .any, .any, .any, .any, .any, .any, .any, .any, .any, .any, .any, .any, .any, .any, .any, .any, .any, .any, .any, .any, .any, .any, .any, .any, .any, .any, .any, .any, .any, .any, .any, .any, .any, .any, .any, .any, .any, .any] (h ++ [])) : ACalls Try.prog 37 [a0, a1] h R := ACalls.intoN k37 rfl hw
theorem j37 {a0 a1 : AV} {h : AH} {R : AE → AH → Prop} (hw : ∀ n, h.length = n → (∀ e ∈ h, e.lt n = true) → AV.ltL n [a0, a1] = true → AV.bdL [a0, a1] → aw Try.prog n c37 (retA [(.cell 4 true 6)] fun x h' => ∃ y z, h' = y ++ z ∧ y.length = n ∧ (∀ e ∈ y, e.lt n = true) ∧ x.lt n = true ∧ R x y) [a0, a1, .any, .any, .any, .any, .any, .any, .any, .any, .any, .any, .any, .any, .any, .any, .any, .any, .any, .any, .any, .any, .any, .any, .any, .any, .any, .any, .any, .any, .any, .any, .any, .any, .any, .any, .any, .any, .any, .any, .any, .any] (h ++ [])) : ACalls Try.prog 37 [a0, a1] h R := ACalls.intoG k37 rfl hw
/-- delta.Diff -/
def c13 : AC := (.seq (.reg [⟨(some 2), none, (.box 26 4 (.tmp 0))⟩, ⟨(some 3), none, (.box 26 4 (.tmp 1))⟩, ⟨(some 4), none, (.new 28 6 [(.v (.int .i64 0)), (.v (.int .i64 0)), (.v (.string ⟨#[]⟩)), (.v (.int .i64 0)), (.v (.int .i64 0)), (.sl 0 0 true [])])⟩, ⟨(some 5), none, (.mv (.const (.int .i64 0)))⟩]) (.seq (.seq (.reg [⟨(some 9), none, (.load true 4 (.tmp 2))⟩, ⟨(some 10), none, (.load true 4 (.tmp 3))⟩, ⟨(some 11), none, (.lit 26 4 2 [(.v (.int .i64 0)), (.v (.int .i64 0)), (.v (.string ⟨#[]⟩)), (.sl 0 0 true []), (.v (.int .i64 0)), (.v (.int .i64 0)), (.v (.string ⟨#[]⟩)), (.sl 0 0 true [])] [(0, (4, (.tmp 9))), (4, (4, (.tmp 10)))])⟩, ⟨(some 12), none, (.len false (.tmp 11))⟩, ⟨(some 13), none, (.mv (.const (.int .i64 0)))⟩]) (.block 0 (.loop (.seq (.reg [⟨(some 14), none, (.bin .lss (.tmp 13) (.tmp 12))⟩]) (.seq (.cond (.tmp 14) .skip (.exit 0)) (.seq (.block 1 (.seq (.reg [⟨(some 15), none, (.ia 4 (.tmp 11) (.tmp 13))⟩, ⟨(some 16), none, (.load true 4 (.tmp 15))⟩, ⟨(some 7), none, (.new 26 4 [(.v (.int .i64 0)), (.v (.int .i64 0)), (.v (.string ⟨#[]⟩)), (.sl 0 0 true [])])⟩, ⟨none, none, (.store 4 (.tmp 7) (.tmp 16))⟩]) (.seq (.reg [⟨(some 17), none, (.load true 4 (.tmp 7))⟩, ⟨(some 18), none, (.call (.func 35) [(.tmp 17)])⟩, ⟨(some 8), none, (.mv (.tmp 18))⟩]) (.seq (.reg [⟨(some 19), none, (.mv (.tmp 8))⟩, ⟨(some 20), none, (.bin .neq (.tmp 19) (.const (.int .i64 0)))⟩]) (.cond (.tmp 20) (.seq (.reg [⟨(some 21), none, (.build [(.v (.int .i64 0)), (.v (.int .i64 0)), (.v (.string ⟨#[]⟩)), (.v (.int .i64 0)), (.v (.int .i64 0)), (.sl 0 0 true [])] [])⟩, ⟨(some 22), none, (.mv (.tmp 8))⟩, ⟨none, none, (.store 6 (.tmp 4) (.tmp 21))⟩, ⟨(some 5), none, (.mv (.tmp 22))⟩]) .ret) .skip))))) (.reg [⟨(some 23), none, (.bin .add (.tmp 13) (.const (.int .i64 1)))⟩, ⟨(some 13), none, (.mv (.tmp 23))⟩]))))))) (.seq (.reg [⟨(some 24), none, (.load true 4 (.tmp 2))⟩, ⟨(some 25), none, (.load true 4 (.tmp 3))⟩, ⟨(some 26), none, (.call (.func 37) [(.tmp 24), (.tmp 25)])⟩, ⟨none, none, (.store 6 (.tmp 4) (.tmp 26))⟩, ⟨(some 5), none, (.mv (.const (.int .i64 0)))⟩]) .ret)))
theorem k13 : compF Try.prog 13 = some ⟨c13, [(.cell 4 true 6), (.tmp 5)], 27⟩ := by kernel_rfl
theorem i13 {a0 a1 : AV} {h : AH} {R : AE → Prop} (hw : ∀ n, h.length = n → (∀ e ∈ h, e.lt n = true) → AV.ltL n [a0, a1] = true → AV.bdL [a0, a1] → aw Try.prog n c13 (retA [(.cell 4 true 6), (.tmp 5)] fun x h' => ∃ z, h' = h ++ z ∧ x.lt n = true ∧ R x) [a0, a1, .any, .any, .any, .any, .any, .any, .any, .any, .any, .any, .any, .any, .any, .any, .any, .any, .any, .any, .any, .any, .any, .any, .any, .any, .any] (h ++ [])) : ACalls Try.prog 13 [a0, a1] h fun x h' => h' = h ∧ R x := ACalls.into k13 rfl hw
theorem w13 {a0 a1 : AV} {h : AH} {res : AV} (hw : ∀ n, h.length = n → (∀ e ∈ h, e.lt n = true) → AV.ltL n [a0, a1] = true → AV.bdL [a0, a1] → aw Try.prog n c13 (retA [(.cell 4 true 6), (.tmp 5)] fun x h' => ∃ z, h' = h ++ z ∧ x.lt n = true ∧ ∃ c, x = .ret c ∧ Wk c res) [a0, a1, .any, .any, .any, .any, .any, .any, .any, .any, .any, .any, .any, .any, .any, .any, .any, .any, .any, .any, .any, .any, .any, .any, .any, .any, .any] (h ++ [])) : ACalls Try.prog 13 [a0, a1] h fun x h' => h' = h ∧ x = .ret res := ACalls.weak (ACalls.into k13 rfl hw)
theorem n13 {a0 a1 : AV} {h : AH} {R : AE → AH → Prop} (hw : ∀ n, h.length = n → (∀ e ∈ h, e.lt n = true) → AV.ltL n [a0, a1] = true → AV.bdL [a0, a1] → aw Try.prog n c13 (retA [(.cell 4 true 6), (.tmp 5)] R) [a0, a1, .any, .any, .any, .any, .any, .any, .any, .any, .any, .any, .any, .any, .any, .any, .any, .any, .any, .any, .any, .any, .any, .any, .any, .any, .any] (h ++ [])) : ACalls Try.prog 13 [a0, a1] h R := ACalls.intoN k13 rfl hw
theorem j13 {a0 a1 : AV} {h : AH} {R : AE → AH → Prop} (hw : ∀ n, h.length = n → (∀ e ∈ h, e.lt n = true) → AV.ltL n [a0, a1] = true → AV.bdL [a0, a1] → aw Try.prog n c13 (retA [(.cell 4 true 6), (.tmp 5)] fun x h' => ∃ y z, h' = y ++ z ∧ y.length = n ∧ (∀ e ∈ y, e.lt n = true) ∧ x.lt n = true ∧ R x y) [a0, a1, .any, .any, .any, .any, .any, .any, .any, .any, .any, .any, .any, .any, .any, .any, .any, .any, .any, .any, .any, .any, .any, .any, .any, .any, .any] (h ++ [])) : ACalls Try.prog 13 [a0, a1] h R := ACalls.intoG k13 rfl hw
abbrev Pat := Loc × Int × Int × List Chg
abbrev tabC (t : Tab) : List AV := [iv t.1.1, iv t.1.2.1, sv t.1.2.2, chS t.2]
theorem tab_lt {n : Nat} (l : List Tab) : AV.ltL n (rows tabC l) = true := rows_lt (fun n x => by simp [AV.ltL, AV.lt, chg_lt]) l
abbrev patA (p : Pat) : AV := .agg [iv p.1.1, iv p.1.2.1, sv p.1.2.2, iv p.2.1, iv p.2.2.1, chS p.2.2.2]
def hdOf (t u : Tab) : Nat := com t.2 u.2
def tlOf (t u : Tab) : Nat := com (t.2.drop (hdOf t u)).reverse (u.2.drop (hdOf t u)).reverse
def patOf (t u : Tab) : Pat := (u.1, hdOf t u, tlOf t u, (u.2.take (u.2.length - tlOf t u)).drop (hdOf t u))
def noPat : Pat := ((0, 0, ⟨#[]⟩), 0, 0, [])
def noTab : Tab := ((0, 0, ⟨#[]⟩), [])
theorem hd_le (t u : Tab) : hdOf t u ≤ t.2.length ∧ hdOf t u ≤ u.2.length := com_le _ _
theorem tl_le (t u : Tab) : tlOf t u ≤ t.2.length - hdOf t u ∧ tlOf t u ≤ u.2.length - hdOf t u := by
  have := com_le (t.2.drop (hdOf t u)).reverse (u.2.drop (hdOf t u)).reverse
  simpa [tlOf] using this
def diffE (t u : Tab) : Int := if checkT t ≠ 0 then checkT t else checkT u
def diffP (t u : Tab) : Pat := if diffE t u = 0 then patOf t u else noPat
def okT (t : Tab) : Prop := t.1.2.2.size ≤ maxLen ∧ ∀ x ∈ t.2, x.2.2.2.size ≤ maxLen
theorem checkT_len {t : Tab} (h : checkT t = 0) : t.2.length ≤ 1000 := by
  unfold checkT at h
  split at h
  · omega
  · omega
theorem diffE_at {t u : Tab} {k : Nat} (hk : k < [t, u].length) (h0 : ∀ j (hj : j < [t, u].length), j < k → checkT [t, u][j] = 0) (h : checkT [t, u][k] ≠ 0) : diffE t u = checkT [t, u][k] := by
  match k, hk with
  | 0, _ => exact if_pos h
  | 1, _ =>
    have := h0 0 (by simp) (by omega)
    unfold diffE
    rw [if_neg (by simpa using this)]
    rfl
theorem diffE_ok {t u : Tab} (h0 : ∀ j (hj : j < [t, u].length), checkT [t, u][j] = 0) : diffE t u = 0 ∧ checkT t = 0 ∧ checkT u = 0 := by
  have h1 := h0 0 (by simp)
  have h2 := h0 1 (by simp)
  refine ⟨?_, h1, h2⟩
  unfold diffE
  rw [if_neg (by simpa using h1)]
  exact h2
theorem between_a {t u : Tab} {f1 f2 : Bool} {h : AH} (h1 : t.2.length ≤ 3000000000000) (h2 : u.2.length ≤ 3000000000000) :
    ACalls Try.prog 37 [.agg [iv t.1.1, iv t.1.2.1, sv t.1.2.2, .sl t.2.length 4 f1 (rows chgC t.2)], .agg [iv u.1.1, iv u.1.2.1, sv u.1.2.2, .sl u.2.length 4 f2 (rows chgC u.2)]] h fun x h' => h' = h ∧ x = .ret (patA (patOf t u)) := by
  have hh := hd_le t u
  have ht := tl_le t u
  refine i37 ?_
  intro N hn hlt hlA hbd
  try simp only [AV.bdL, AV.bd, and_true, true_and] at hbd
  refine w_seq ?_
  refine w_reg ?_
  refine s_eff rfl rfl (e_box (cvl lk0 rfl) rfl (hl0 hn) ha0) pt2 ?_
  refine s_eff rfl rfl (e_box (cvl lk1 rfl) rfl (hl1 hn) ha1) pt3 ?_
  refine s_eff rfl rfl (e_new (hl2 hn) ha2) pt4 ?_
  refine s_nil ?_
  refine n_seq ?_
  refine w_seq ?_
  refine w_drwE ?_
  refine d_val rfl (v_fap0 lk3) pt6 ?_
  refine d_val rfl (v_loadpA lk6 (hga hn rfl) ADelB_tk0_3 rfl) pt7 ?_
  refine d_val rfl (v_fap0 lk2) pt8 ?_
  refine d_val rfl (v_loadp lk8 (hga hn rfl) gt3) pt9 ?_
  refine d_val rfl (v_fap0 lk3) pt10 ?_
  refine d_val rfl (v_loadp lk10 (hga hn rfl) gt3) pt11 ?_
  refine d_callp (mp1 lk9 (mp1 lk11 mp0)) (fun _ _ => (common_a' (f1 := f1) (f2 := f2) rfl : ACalls Try.prog 63 _ _ fun x h' => _ = _ ∧ x = .ret (iv (hdOf t u)))) pt12 ?_
  refine d_val rfl (v_build (ADelB_Between_11 (cvl lk7 rfl) rfl (cvl lk12 rfl) rfl)) pt13 ?_
  refine d_eff rfl rfl (hlk hn rfl) (l_new) pt5 ADelB_lap0 ?_
  refine d_nil ?_
  refine e_ent ADelB_lj3_1 ?_
  refine s_eff rfl rfl (e_store lk5 (cvl lk13 rfl) (hga hn rfl) rfl (Nat.le_of_ble_eq_true rfl) rfl ADelB_sc0_6 (hs3 hn)) ptn ?_
  refine s_nil ?_
  refine n_seq ?_
  refine w_seq ?_
  refine w_drwE ?_
  refine d_val rfl (v_fap0 lk2) pt14 ?_
  refine d_val rfl (v_loadp lk14 (hga hn rfl) gt3) pt15 ?_
  refine d_val rfl (v_fap0 lk5) pt16 ?_
  refine d_val rfl (v_loadp lk16 (hga hn rfl) gt3) pt17 ?_
  refine d_val rfl (v_lo (k := hdOf t u) lk15 lk17 chg_len1 (by first | rfl | omega) (by omega) (by first | rfl | omega)) pt18 ?_
  refine d_callp (mp1 lk18 mp0) (fun _ _ => back_a (by rw [List.length_drop]; omega)) pt19 ?_
  refine d_val rfl (v_fap0 lk3) pt20 ?_
  refine d_val rfl (v_loadp lk20 (hga hn rfl) gt3) pt21 ?_
  refine d_val rfl (v_fap0 lk5) pt22 ?_
  refine d_val rfl (v_loadp lk22 (hga hn rfl) gt3) pt23 ?_
  refine d_val rfl (v_lo (k := hdOf t u) lk21 lk23 chg_len1 (by first | rfl | omega) (by omega) (by first | rfl | omega)) pt24 ?_
  refine d_callp (mp1 lk24 mp0) (fun _ _ => back_a (by rw [List.length_drop]; omega)) pt25 ?_
  refine d_callp (mp1 lk19 (mp1 lk25 mp0)) (fun _ _ => (common_a' (f1 := false) (f2 := false) rfl : ACalls Try.prog 63 _ _ fun x h' => _ = _ ∧ x = .ret (iv (tlOf t u)))) pt26 ?_
  refine d_val rfl (v_fap0 lk5) pt27 ?_
  refine d_nil ?_
  refine e_nil ?_
  refine s_eff rfl rfl (e_store lk27 (cvl lk26 rfl) (hga hn rfl) rfl (Nat.le_of_ble_eq_true rfl) rfl ADelB_sc4_1 (hs3 hn)) ptn ?_
  refine s_nil ?_
  refine n_seq ?_
  refine w_seq ?_
  refine w_reg ?_
  refine s_val rfl (v_fap0 lk3) pt28 ?_
  refine s_val rfl (v_loadp lk28 (hga hn rfl) gt3) pt29 ?_
  refine s_val rfl (v_fap0 lk5) pt30 ?_
  refine s_val rfl (v_loadp lk30 (hga hn rfl) gt3) pt31 ?_
  refine s_val rfl (v_fap0 lk3) pt32 ?_
  refine s_val rfl (v_loadp lk32 (hga hn rfl) gt3) pt33 ?_
  refine s_val rfl (v_lenL lk33) pt34 ?_
  refine s_val rfl (v_fap0 lk5) pt35 ?_
  refine s_val rfl (v_loadp lk35 (hga hn rfl) gt4) pt36 ?_
  refine s_val rfl (v_sub lk34 lk36 (by omega) (by omega)) pt37 ?_
  have hq : tlOf t u ≤ u.2.length := by omega
  refine s_val rfl (v_lh (k := hdOf t u) (m := u.2.length - tlOf t u) lk29 lk31 lk37 chg_len1 (by first | rfl | omega) (by first | rfl | omega) (by omega) (by omega) (by first | rfl | omega)) pt38 ?_
  refine s_calla (mp1 lk38 mp0) (clone_a (by simp; omega)) (hl4 hn) (fun _ => ha4) (fun _ => pt39) (fun va40 => ?_)
  refine s_val rfl (v_fap0 lk5) pt40 ?_
  refine s_eff rfl rfl (e_store lk40 (cvl lk39 rfl) (hga hn rfl) rfl (Nat.le_of_ble_eq_true rfl) rfl ADelB_sc5_1 (hs3 hn)) ptn ?_
  refine s_nil ?_
  refine n_seqw (ALe.iceCellR (hga hn rfl) (hga hn rfl) (by omega) gt5 (List.take_of_length_le (by rw [rows_len chg_len1]; first | exact Nat.le_refl _ | omega)) (by rw [rows_len chg_len1]; first | exact Nat.le_refl _ | omega) pt5 (hs4 hn) (hs3 hn)) ?_
  refine w_seq ?_
  refine w_reg ?_
  refine s_val rfl (v_loadpA lk5 (hga hn rfl) ADelB_tk0_6 rfl) pt41 ?_
  refine s_eff rfl rfl (e_store lk4 (cvl lk41 rfl) (hga hn rfl) rfl (Nat.le_of_ble_eq_true rfl) rfl ADelB_sc0_6 (hs2 hn)) ptn ?_
  refine s_nil ?_
  refine n_seq ?_
  refine w_rets ?_
  refine w_ret (rs1 (rr_c gt4 (hga hn rfl) (ld1 ADelB_tk0_6 rfl))) ?_
  refine rt (by first | rfl | (simp only [AV.lt, AV.ltL, Ent.lt, List.all_cons, List.all_nil, Bool.and_true, Bool.and_self, decide_true, chg_lt, tab_lt]; done) | (simp [AV.lt, AV.ltL, Ent.lt, chg_lt, tab_lt, *]; done) | (simp [AV.lt, AV.ltL, Ent.lt, chg_lt, tab_lt, *]; omega)) ?_
  rfl
theorem diff_a {t u : Tab} {f1 f2 : Bool} {h : AH} (ht : okT t) (hu : okT u) :
    ACalls Try.prog 13 [.agg [iv t.1.1, iv t.1.2.1, sv t.1.2.2, .sl t.2.length 4 f1 (rows chgC t.2)], .agg [iv u.1.1, iv u.1.2.1, sv u.1.2.2, .sl u.2.length 4 f2 (rows chgC u.2)]] h fun x h' => h' = h ∧ x = .ret (.tup [patA (diffP t u), iv (diffE t u)]) := by
  refine ACalls.wk (wkw (Wk.agg (wk1 rfl (wk1 rfl (wk1 rfl (wkw Wk.full wk0))))) (wkw (Wk.agg (wk1 rfl (wk1 rfl (wk1 rfl (wkw Wk.full wk0))))) wk0)) ?_
  refine w13 ?_
  intro N hn hlt hlA hbd
  try simp only [AV.bdL, AV.bd, and_true, true_and] at hbd
  refine w_seq ?_
  refine w_reg ?_
  refine s_eff rfl rfl (e_box (cvl lk0 rfl) rfl (hl0 hn) ha0) pt2 ?_
  refine s_eff rfl rfl (e_box (cvl lk1 rfl) rfl (hl1 hn) ha1) pt3 ?_
  refine s_eff rfl rfl (e_new (hl2 hn) ha2) pt4 ?_
  refine s_val rfl (v_mv lki) pt5 ?_
  refine s_nil ?_
  refine n_seq ?_
  refine w_seq ?_
  refine w_seq ?_
  refine w_reg ?_
  refine s_val rfl (v_loadpA lk2 (hga hn rfl) ADelB_tk0_4 rfl) pt9 ?_
  refine s_val rfl (v_loadpA lk3 (hga hn rfl) ADelB_tk0_4 rfl) pt10 ?_
  refine s_eff rfl rfl (e_lit (ADelB_Diff_7 (cvl lk9 rfl) rfl (cvl lk10 rfl) rfl) (hl3 hn) ha3) pt11 ?_
  refine s_val rfl (v_lenO lk11) pt12 ?_
  refine s_val rfl (v_mv lki) pt13 ?_
  refine s_nil ?_
  refine n_seq ?_
  refine w_block ?_
  refine w_loop (ι := Nat) (fun (k : Nat) => [(13, iv (k : Int)), (5, .any), (7, .any), (8, .any), (14, .any), (15, .any), (16, .any), (17, .any), (18, .any), (19, .any), (20, .any), (21, .any), (22, .any), (23, .any)]) (fun (k : Nat) => [(3, .mk 0 26 4 (rows tabC [t, u]))]) (fun (k : Nat) => k ≤ [t, u].length ∧ ∀ j (hj : j < [t, u].length), j < k → checkT [t, u][j] = 0) (fun (k : Nat) => 2 - k) (0) (by exact ⟨by simp, fun j hj h0 => by omega⟩) (by try simp only [setsT, setsE, List.set_cons_zero, List.set_cons_succ]; exact ALe.same (wk1 rfl (wk1 rfl (wk1 rfl (wk1 rfl (wk1 rfl (wka (wk1 rfl (wka (wka (wk1 rfl (wk1 rfl (wk1 rfl (wk1 rfl (wk1 (by first | rfl | exact ivx (by omega) | (simp; done)) (wka (wka (wka (wka (wka (wka (wka (wka (wka (wka (wk1 rfl (wk1 rfl (wk1 rfl wk0))))))))))))))))))))))))))) rfl) ?_
  rintro k hi1
  try simp only [setsT, setsE, List.set_cons_zero, List.set_cons_succ]
  obtain ⟨hk1, hk2⟩ := hi1
  have hlen : [t, u].length = 2 := rfl
  refine w_seq ?_
  refine w_reg ?_
  refine s_val rfl (v_lss lk13 lk12) pt14 ?_
  refine s_nil ?_
  refine n_seq ?_
  refine w_seq ?_
  first | refine w_cond lk14 (fun hc1 => ?_) (fun hc1 => ?_) | refine w_condB lk14 (fun hc1 => ?_) (fun hc1 => ?_)
  · skip
    have hk : k < [t, u].length := by omega
    have hok : okT [t, u][k] := by
      match k, hk with
      | 0, _ => exact ht
      | 1, _ => exact hu
    refine w_skip ?_
    refine n_seq ?_
    refine w_seq ?_
    refine w_block ?_
    refine w_seq ?_
    refine w_reg ?_
    refine s_val rfl (v_iaOR lk11 lk13 (hga hn rfl) (fun _ => rfl) (Nat.le_of_ble_eq_true rfl) (by first | rfl | omega) (by omega) (by first | rfl | (simp; done) | omega)) pt15 ?_
    refine s_val rfl (v_ldOR lk15 (hga hn rfl) (fun _ => rfl) (by omega) rfl) pt16 ?_
    refine s_eff rfl rfl (e_new (hl4 hn) ha4) pt7 ?_
    refine s_eff rfl rfl (e_store lk7 (cvl lk16 rfl) (hga hn rfl) rfl (Nat.le_of_ble_eq_true rfl) rfl ADelB_sc0_4 (hs4 hn)) ptn ?_
    refine s_nil ?_
    refine n_seq ?_
    refine w_seq ?_
    refine w_reg ?_
    refine s_val rfl (v_loadpA lk7 (hga hn rfl) ADelB_tk0_4 rfl) pt17 ?_
    refine s_callp (mp1 lk17 mp0) (check_a hok.1 hok.2) pt18 ?_
    refine s_val rfl (v_mv lk18) pt8 ?_
    refine s_nil ?_
    refine n_seq ?_
    refine w_seq ?_
    refine w_reg ?_
    refine s_val rfl (v_mv lk8) pt19 ?_
    refine s_val rfl (v_neq lk19 lki) pt20 ?_
    refine s_nil ?_
    refine n_seq ?_
    first | refine w_cond lk20 (fun hc2 => ?_) (fun hc2 => ?_) | refine w_condB lk20 (fun hc2 => ?_) (fun hc2 => ?_)
    · skip
      refine w_seq ?_
      refine w_reg ?_
      refine s_val rfl (v_build ADelB_Diff_20) pt21 ?_
      refine s_val rfl (v_mv lk8) pt22 ?_
      refine s_eff rfl rfl (e_store lk4 (cvl lk21 rfl) (hga hn rfl) rfl (Nat.le_of_ble_eq_true rfl) rfl ADelB_sc0_6 (hs2 hn)) ptn ?_
      refine s_val rfl (v_mv lk22) pt5 ?_
      refine s_nil ?_
      refine n_seq ?_
      refine w_rets ?_
      refine r_blk ?_
      refine r_thn ?_
      refine r_thn ?_
      refine r_blk ?_
      refine r_thn ?_
      refine w_ret (rsn (rm1 (rr_c gt4 (hga hn rfl) (ld1 ADelB_tk0_6 rfl)) (rm1 (rr_t gt5) rm0))) ?_
      refine rtw (by first | rfl | (simp only [AV.lt, AV.ltL, Ent.lt, List.all_cons, List.all_nil, Bool.and_true, Bool.and_self, decide_true, chg_lt, tab_lt]; done) | (simp [AV.lt, AV.ltL, Ent.lt, chg_lt, tab_lt, *]; done) | (simp [AV.lt, AV.ltL, Ent.lt, chg_lt, tab_lt, *]; omega)) ?_
      have hE := diffE_at hk hk2 hc2
      rw [diffP, if_neg (by rw [hE]; exact hc2), hE]
      exact Wk.tup (wkw (Wk.agg (wk1 rfl (wk1 rfl (wk1 rfl (wk1 rfl (wk1 rfl (wkw Wk.nilF wk0))))))) (wk1 rfl wk0))
    · skip
      refine w_skip ?_
      refine n_blk ?_
      refine n_seq ?_
      refine w_reg ?_
      refine s_val rfl (v_add lk13 lki (by omega) (by omega)) pt23 ?_
      refine s_val rfl (v_mv lk23) pt13 ?_
      refine s_nil ?_
      refine n_thn ?_
      refine LoopTo.mk (k + 1) (by omega) (by exact ⟨by omega, fun j hj h0 => by by_cases e : j = k; subst e; exact Decidable.of_not_not hc2; exact hk2 j hj (by omega)⟩) (by (try dsimp only); (try simp only [setsT, setsE, List.set_cons_zero, List.set_cons_succ]); exact ALe.back (wk1 rfl (wk1 rfl (wk1 rfl (wk1 rfl (wk1 rfl (wka (wk1 rfl (wka (wka (wk1 rfl (wk1 rfl (wk1 rfl (wk1 rfl (wk1 (by first | rfl | exact ivx (by omega) | (simp; done)) (wka (wka (wka (wka (wka (wka (wka (wka (wka (wka (wk1 rfl (wk1 rfl (wk1 rfl wk0))))))))))))))))))))))))))) (by rfl) (k := N + 4) (by simp only [List.length_cons, List.length_nil, hn]) (by omega) (by first | rfl | (simp only [AV.lt, AV.ltL, Ent.lt, List.all_cons, List.all_nil, Bool.and_true, Bool.and_self, decide_true, chg_lt, tab_lt]; done) | (simp [AV.lt, AV.ltL, Ent.lt, chg_lt, tab_lt, *]; done) | (simp [AV.lt, AV.ltL, Ent.lt, chg_lt, tab_lt, *]; omega)) (ltw (by omega) hlt) (by first | rfl | (simp only [AV.lt, AV.ltL, Ent.lt, List.all_cons, List.all_nil, Bool.and_true, Bool.and_self, decide_true, chg_lt, tab_lt]; done) | (simp [AV.lt, AV.ltL, Ent.lt, chg_lt, tab_lt, *]; done) | (simp [AV.lt, AV.ltL, Ent.lt, chg_lt, tab_lt, *]; omega)))
  · skip
    refine w_exit ?_
    refine x_thn ?_
    refine x_thn ?_
    refine x_blk ?_
    refine n_seq ?_
    have hz := diffE_ok (t := t) (u := u) fun j hj => hk2 j hj (by omega)
    refine w_seq ?_
    refine w_reg ?_
    refine s_val rfl (v_loadpA lk2 (hga hn rfl) ADelB_tk0_4 rfl) pt24 ?_
    refine s_val rfl (v_loadpA lk3 (hga hn rfl) ADelB_tk0_4 rfl) pt25 ?_
    skip
    refine s_callp (mp1 lk24 (mp1 lk25 mp0)) (between_a (by have := checkT_len hz.2.1; omega) (by have := checkT_len hz.2.2; omega)) pt26 ?_
    refine s_eff rfl rfl (e_store lk4 (cvl lk26 rfl) (hga hn rfl) rfl (Nat.le_of_ble_eq_true rfl) rfl ADelB_sc0_6 (hs2 hn)) ptn ?_
    refine s_val rfl (v_mv lki) pt5 ?_
    refine s_nil ?_
    refine n_seq ?_
    refine w_rets ?_
    refine w_ret (rsn (rm1 (rr_c gt4 (hga hn rfl) (ld1 ADelB_tk0_6 rfl)) (rm1 (rr_t gt5) rm0))) ?_
    refine rtw (by first | rfl | (simp only [AV.lt, AV.ltL, Ent.lt, List.all_cons, List.all_nil, Bool.and_true, Bool.and_self, decide_true, chg_lt, tab_lt]; done) | (simp [AV.lt, AV.ltL, Ent.lt, chg_lt, tab_lt, *]; done) | (simp [AV.lt, AV.ltL, Ent.lt, chg_lt, tab_lt, *]; omega)) ?_
    rw [diffP, if_pos hz.1, hz.1]; exact Wk.refl _
end Go.Proofs.Ytmbebimingkfeaa
