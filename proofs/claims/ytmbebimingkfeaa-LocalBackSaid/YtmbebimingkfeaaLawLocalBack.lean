/-
  LocalBack answers true, whatever table, time, date and second it is handed, and leaves them as they were. No condition.
-/
import Derived.Test.YtmbebimingkfeaaLBegun
set_option linter.unusedVariables false
set_option linter.unusedSimpArgs false
set_option maxRecDepth 100000
namespace Go.Proofs.Ytmbebimingkfeaa.localBack
open Go.ChangeShapes Go.WideShapes Go.ChangeAt Go.RowKit Go.Ab Civ
section
theorem LawLocalBack_tk0_4 {a0 a1 a2 a3 : AV} {l : List AV} : ((a0 :: a1 :: a2 :: a3 :: l).drop 0).take 4 = [a0, a1, a2, a3] := rfl
theorem LawLocalBack_sc0_3 {a0 a1 a2 c0 c1 c2 : AV} {l : List AV} : setCells (a0 :: a1 :: a2 :: l) 0 [c0, c1, c2] = c0 :: c1 :: c2 :: l := rfl
theorem LawLocalBack_tk0_3 {a0 a1 a2 : AV} {l : List AV} : ((a0 :: a1 :: a2 :: l).drop 0).take 3 = [a0, a1, a2] := rfl
theorem LawLocalBack_lap0 { e : Ent} : ([] : AH) ++ [e] = [e] := rfl
theorem LawLocalBack_lj3_1 {e0 e1 e2 d0 : Ent} : ([e0, e1, e2] : AH) ++ [d0] = [e0, e1, e2, d0] := rfl
theorem LawLocalBack_eq_iii {a0 b0 : Int} {a1 b1 : Int} {a2 b2 : Int} : eqCells [.int, .int, .int] [iv a0, iv a1, iv a2] [iv b0, iv b1, iv b2] = some (decide (a0 = b0 ∧ a1 = b1 ∧ a2 = b2)) := by
  simp only [eqCells, eqLeaf, if_true, bytes_beq, Option.some.injEq]
  simp only [Bool.decide_and, Bool.and_true]
  try (congr 1 <;> simp)
  try rfl
end
/-- datelinelaw.LocalBack -/
def c10 : AC := (.seq (.reg [⟨(some 4), none, (.box 26 4 (.tmp 0))⟩, ⟨(some 6), none, (.box 52 3 (.tmp 2))⟩, ⟨(some 8), none, (.mv (.const (.bool false)))⟩]) (.seq (.seq (.reg [⟨(some 21), none, (.call (.func 32) [])⟩, ⟨(some 22), none, (.un .not (.tmp 21))⟩]) (.cond (.tmp 22) (.seq (.reg [⟨(some 8), none, (.mv (.const (.bool false)))⟩]) .ret) .skip)) (.seq (.reg [⟨(some 24), none, (.load true 4 (.tmp 4))⟩, ⟨(some 25), none, (.mv (.tmp 1))⟩, ⟨(some 26), none, (.call (.func 25) [(.tmp 24), (.tmp 25)])⟩, ⟨(some 23), none, (.mv (.tmp 26))⟩, ⟨(some 27), none, (.ext (.tmp 23) 0)⟩, ⟨(some 28), none, (.ext (.tmp 23) 1)⟩, ⟨(some 29), none, (.ext (.tmp 23) 2)⟩, ⟨(some 9), none, (.new 52 3 [(.v (.int .i64 0)), (.v (.int .i64 0)), (.v (.int .i64 0))])⟩, ⟨none, none, (.store 3 (.tmp 9) (.tmp 27))⟩, ⟨(some 10), none, (.mv (.tmp 28))⟩, ⟨(some 11), none, (.mv (.tmp 29))⟩]) (.seq (.seq (.reg [⟨(some 30), none, (.mv (.tmp 11))⟩, ⟨(some 31), none, (.bin .eql (.tmp 30) (.const (.int .i64 0)))⟩]) (.cond (.tmp 31) (.seq (.reg [⟨(some 33), none, (.load true 4 (.tmp 4))⟩, ⟨(some 34), none, (.load true 3 (.tmp 9))⟩, ⟨(some 35), none, (.mv (.tmp 10))⟩, ⟨(some 36), none, (.call (.func 26) [(.tmp 33), (.tmp 34), (.tmp 35)])⟩, ⟨(some 32), none, (.mv (.tmp 36))⟩, ⟨(some 37), none, (.ext (.tmp 32) 0)⟩, ⟨(some 38), none, (.ext (.tmp 32) 1)⟩, ⟨(some 12), none, (.mv (.tmp 37))⟩, ⟨(some 13), none, (.mv (.tmp 38))⟩]) (.seq (.reg [⟨(some 14), none, (.mv (.const (.bool false)))⟩]) (.seq (.seq (.reg [⟨(some 15), none, (.mv (.const (.int .i64 0)))⟩]) (.block 0 (.loop (.seq (.seq (.reg [⟨(some 39), none, (.mv (.tmp 15))⟩, ⟨(some 40), none, (.mv (.tmp 12))⟩, ⟨(some 41), none, (.len false (.tmp 40))⟩, ⟨(some 42), none, (.bin .lss (.tmp 39) (.tmp 41))⟩]) (.cond (.tmp 42) .skip (.exit 0))) (.seq (.block 1 (.reg [⟨(some 45), none, (.mv (.tmp 14))⟩, ⟨(some 46), none, (.mv (.tmp 45))⟩, ⟨(some 47), (some (46, false)), (.mv (.tmp 12))⟩, ⟨(some 48), (some (46, false)), (.mv (.tmp 15))⟩, ⟨(some 49), (some (46, false)), (.ia 1 (.tmp 47) (.tmp 48))⟩, ⟨(some 50), (some (46, false)), (.load false 1 (.tmp 49))⟩, ⟨(some 51), (some (46, false)), (.mv (.tmp 1))⟩, ⟨(some 52), (some (46, false)), (.bin .eql (.tmp 50) (.tmp 51))⟩, ⟨(some 53), none, (.pick (.tmp 46) (.const (.bool true)) (.tmp 52))⟩, ⟨(some 14), none, (.mv (.tmp 53))⟩])) (.reg [⟨(some 43), none, (.mv (.tmp 15))⟩, ⟨(some 44), none, (.bin .add (.tmp 43) (.const (.int .i64 1)))⟩, ⟨(some 15), none, (.mv (.tmp 44))⟩])))))) (.seq (.reg [⟨(some 54), none, (.mv (.tmp 13))⟩, ⟨(some 55), none, (.bin .neq (.tmp 54) (.const (.int .i64 0)))⟩, ⟨(some 56), none, (.mv (.tmp 55))⟩, ⟨(some 57), (some (56, false)), (.mv (.tmp 14))⟩, ⟨(some 58), (some (56, false)), (.un .not (.tmp 57))⟩, ⟨(some 59), none, (.pick (.tmp 56) (.const (.bool true)) (.tmp 58))⟩]) (.cond (.tmp 59) (.seq (.reg [⟨(some 8), none, (.mv (.const (.bool false)))⟩]) .ret) .skip))))) .skip)) (.seq (.reg [⟨(some 61), none, (.load true 4 (.tmp 4))⟩, ⟨(some 62), none, (.load true 3 (.tmp 6))⟩, ⟨(some 63), none, (.mv (.tmp 3))⟩, ⟨(some 64), none, (.call (.func 26) [(.tmp 61), (.tmp 62), (.tmp 63)])⟩, ⟨(some 60), none, (.mv (.tmp 64))⟩, ⟨(some 65), none, (.ext (.tmp 60) 0)⟩, ⟨(some 66), none, (.ext (.tmp 60) 1)⟩, ⟨(some 16), none, (.mv (.tmp 65))⟩, ⟨(some 11), none, (.mv (.tmp 66))⟩]) (.seq (.seq (.reg [⟨(some 67), none, (.mv (.tmp 11))⟩, ⟨(some 68), none, (.bin .neq (.tmp 67) (.const (.int .i64 0)))⟩]) (.cond (.tmp 68) (.seq (.reg [⟨(some 69), none, (.mv (.tmp 16))⟩, ⟨(some 70), none, (.len false (.tmp 69))⟩, ⟨(some 71), none, (.bin .eql (.tmp 70) (.const (.int .i64 0)))⟩, ⟨(some 8), none, (.mv (.tmp 71))⟩]) .ret) .skip)) (.seq (.seq (.reg [⟨(some 17), none, (.mv (.const (.int .i64 0)))⟩]) (.block 2 (.loop (.seq (.seq (.reg [⟨(some 72), none, (.mv (.tmp 17))⟩, ⟨(some 73), none, (.mv (.tmp 16))⟩, ⟨(some 74), none, (.len false (.tmp 73))⟩, ⟨(some 75), none, (.bin .lss (.tmp 72) (.tmp 74))⟩]) (.cond (.tmp 75) .skip (.exit 2))) (.seq (.block 3 (.seq (.drw [⟨(some 79), none, (.load true 4 (.tmp 4))⟩, ⟨(some 80), none, (.mv (.tmp 16))⟩, ⟨(some 81), none, (.mv (.tmp 17))⟩, ⟨(some 82), none, (.ia 1 (.tmp 80) (.tmp 81))⟩, ⟨(some 83), none, (.load false 1 (.tmp 82))⟩, ⟨(some 84), none, (.call (.func 25) [(.tmp 79), (.tmp 83)])⟩, ⟨(some 78), none, (.mv (.tmp 84))⟩, ⟨(some 85), none, (.ext (.tmp 78) 0)⟩, ⟨(some 86), none, (.ext (.tmp 78) 1)⟩, ⟨(some 87), none, (.ext (.tmp 78) 2)⟩, ⟨(some 18), none, (.new 52 3 [(.v (.int .i64 0)), (.v (.int .i64 0)), (.v (.int .i64 0))])⟩] [false, false, false] [⟨none, none, (.store 3 (.tmp 18) (.tmp 85))⟩, ⟨(some 19), none, (.mv (.tmp 86))⟩, ⟨(some 20), none, (.mv (.tmp 87))⟩]) (.seq (.drw [⟨(some 88), none, (.mv (.tmp 20))⟩, ⟨(some 89), none, (.bin .neq (.tmp 88) (.const (.int .i64 0)))⟩, ⟨(some 90), none, (.mv (.tmp 89))⟩, ⟨(some 91), (some (90, false)), (.load true 3 (.tmp 18))⟩, ⟨(some 92), (some (90, false)), (.load true 3 (.tmp 6))⟩, ⟨(some 93), (some (90, false)), (.eqs true [.int, .int, .int] (.tmp 91) (.tmp 92))⟩, ⟨(some 94), none, (.pick (.tmp 90) (.const (.bool true)) (.tmp 93))⟩, ⟨(some 95), none, (.mv (.tmp 94))⟩, ⟨(some 96), (some (95, false)), (.mv (.tmp 19))⟩, ⟨(some 97), (some (95, false)), (.mv (.tmp 3))⟩, ⟨(some 98), (some (95, false)), (.bin .neq (.tmp 96) (.tmp 97))⟩, ⟨(some 99), none, (.pick (.tmp 95) (.const (.bool true)) (.tmp 98))⟩, ⟨(some 100), none, (.mv (.tmp 99))⟩, ⟨(some 101), (some (100, false)), (.mv (.tmp 17))⟩, ⟨(some 102), (some (100, false)), (.bin .gtr (.tmp 101) (.const (.int .i64 0)))⟩, ⟨(some 103), (some (100, false)), (.mv (.tmp 102))⟩, ⟨(some 104), (some (103, true)), (.mv (.tmp 16))⟩, ⟨(some 105), (some (103, true)), (.mv (.tmp 17))⟩, ⟨(some 106), (some (103, true)), (.ia 1 (.tmp 104) (.tmp 105))⟩, ⟨(some 107), (some (103, true)), (.load false 1 (.tmp 106))⟩, ⟨(some 108), (some (103, true)), (.mv (.tmp 16))⟩, ⟨(some 109), (some (103, true)), (.mv (.tmp 17))⟩, ⟨(some 110), (some (103, true)), (.bin .sub (.tmp 109) (.const (.int .i64 1)))⟩, ⟨(some 111), (some (103, true)), (.ia 1 (.tmp 108) (.tmp 110))⟩, ⟨(some 112), (some (103, true)), (.load false 1 (.tmp 111))⟩, ⟨(some 113), (some (103, true)), (.bin .leq (.tmp 107) (.tmp 112))⟩, ⟨(some 114), (some (100, false)), (.pick (.tmp 103) (.tmp 113) (.const (.bool false)))⟩, ⟨(some 115), none, (.pick (.tmp 100) (.const (.bool true)) (.tmp 114))⟩] [] []) (.cond (.tmp 115) (.seq (.reg [⟨(some 8), none, (.mv (.const (.bool false)))⟩]) .ret) .skip)))) (.reg [⟨(some 76), none, (.mv (.tmp 17))⟩, ⟨(some 77), none, (.bin .add (.tmp 76) (.const (.int .i64 1)))⟩, ⟨(some 17), none, (.mv (.tmp 77))⟩])))))) (.seq (.reg [⟨(some 8), none, (.mv (.const (.bool true)))⟩]) .ret))))))))
theorem k10 : compF Try.prog 10 = some ⟨c10, [(.tmp 8)], 116⟩ := by kernel_rfl
theorem i10 {a0 a1 a2 a3 : AV} {h : AH} {R : AE → Prop} (hw : ∀ n, h.length = n → (∀ e ∈ h, e.lt n = true) → AV.ltL n [a0, a1, a2, a3] = true → AV.bdL [a0, a1, a2, a3] → aw Try.prog n c10 (retA [(.tmp 8)] fun x h' => ∃ z, h' = h ++ z ∧ x.lt n = true ∧ R x) [a0, a1, a2, a3, .any, .any, .any, .any, .any, .any, .any, .any, .any, .any, .any, .any, .any, .any, .any, .any, .any, .any, .any, .any, .any, .any, .any, .any, .any, .any, .any, .any, .any, .any, .any, .any, .any, .any, .any, .any, .any, .any, .any, .any, .any, .any, .any, .any, .any, .any, .any, .any, .any, .any, .any, .any, .any, .any, .any, .any, .any, .any, .any, .any, .any, .any, .any, .any, .any, .any, .any, .any, .any, .any, .any, .any, .any, .any, .any, .any, .any, .any, .any, .any, .any, .any, .any, .any, .any, .any, .any, .any, .any, .any, .any, .any, .any, .any, .any, .any, .any, .any, .any, .any, .any, .any, .any, .any, .any, .any, .any, .any, .any, .any, .any, .any] (h ++ [])) : ACalls Try.prog 10 [a0, a1, a2, a3] h fun x h' => h' = h ∧ R x := ACalls.into k10 rfl hw
theorem w10 {a0 a1 a2 a3 : AV} {h : AH} {res : AV} (hw : ∀ n, h.length = n → (∀ e ∈ h, e.lt n = true) → AV.ltL n [a0, a1, a2, a3] = true → AV.bdL [a0, a1, a2, a3] → aw Try.prog n c10 (retA [(.tmp 8)] fun x h' => ∃ z, h' = h ++ z ∧ x.lt n = true ∧ ∃ c, x = .ret c ∧ Wk c res) [a0, a1, a2, a3, .any, .any, .any, .any, .any, .any, .any, .any, .any, .any, .any, .any, .any, .any, .any, .any, .any, .any, .any, .any, .any, .any, .any, .any, .any, .any, .any, .any, .any, .any, .any, .any, .any, .any, .any, .any, .any, .any, .any, .any, .any, .any, .any, .any, .any, .any, .any, .any, .any, .any, .any, .any, .any, .any, .any, .any, .any, .any, .any, .any, .any, .any, .any, .any, .any, .any, .any, .any, .any, .any, .any, .any, .any, .any, .any, .any, .any, .any, .any, .any, .any, .any, .any, .any, .any, .any, .any, .any, .any, .any, .any, .any, .any, .any, .any, .any, .any, .any, .any, .any, .any, .any, .any, .any, .any, .any, .any, .any, .any, .any, .any, .any] (h ++ [])) : ACalls Try.prog 10 [a0, a1, a2, a3] h fun x h' => h' = h ∧ x = .ret res := ACalls.weak (ACalls.into k10 rfl hw)
theorem n10 {a0 a1 a2 a3 : AV} {h : AH} {R : AE → AH → Prop} (hw : ∀ n, h.length = n → (∀ e ∈ h, e.lt n = true) → AV.ltL n [a0, a1, a2, a3] = true → AV.bdL [a0, a1, a2, a3] → aw Try.prog n c10 (retA [(.tmp 8)] R) [a0, a1, a2, a3, .any, .any, .any, .any, .any, .any, .any, .any, .any, .any, .any, .any, .any, .any, .any, .any, .any, .any, .any, .any, .any, .any, .any, .any, .any, .any, .any, .any, .any, .any, .any, .any, .any, .any, .any, .any, .any, .any, .any, .any, .any, .any, .any, .any, .any, .any, .any, .any, .any, .any, .any, .any, .any, .any, .any, .any, .any, .any, .any, .any, .any, .any, .any, .any, .any, .any, .any, .any, .any, .any, .any, .any, .any, .any, .any, .any, .any, .any, .any, .any, .any, .any, .any, .any, .any, .any, .any, .any, .any, .any, .any, .any, .any, .any, .any, .any, .any, .any, .any, .any, .any, .any, .any, .any, .any, .any, .any, .any, .any, .any, .any, .any] (h ++ [])) : ACalls Try.prog 10 [a0, a1, a2, a3] h R := ACalls.intoN k10 rfl hw
theorem j10 {a0 a1 a2 a3 : AV} {h : AH} {R : AE → AH → Prop} (hw : ∀ n, h.length = n → (∀ e ∈ h, e.lt n = true) → AV.ltL n [a0, a1, a2, a3] = true → AV.bdL [a0, a1, a2, a3] → aw Try.prog n c10 (retA [(.tmp 8)] fun x h' => ∃ y z, h' = y ++ z ∧ y.length = n ∧ (∀ e ∈ y, e.lt n = true) ∧ x.lt n = true ∧ R x y) [a0, a1, a2, a3, .any, .any, .any, .any, .any, .any, .any, .any, .any, .any, .any, .any, .any, .any, .any, .any, .any, .any, .any, .any, .any, .any, .any, .any, .any, .any, .any, .any, .any, .any, .any, .any, .any, .any, .any, .any, .any, .any, .any, .any, .any, .any, .any, .any, .any, .any, .any, .any, .any, .any, .any, .any, .any, .any, .any, .any, .any, .any, .any, .any, .any, .any, .any, .any, .any, .any, .any, .any, .any, .any, .any, .any, .any, .any, .any, .any, .any, .any, .any, .any, .any, .any, .any, .any, .any, .any, .any, .any, .any, .any, .any, .any, .any, .any, .any, .any, .any, .any, .any, .any, .any, .any, .any, .any, .any, .any, .any, .any, .any, .any, .any, .any] (h ++ [])) : ACalls Try.prog 10 [a0, a1, a2, a3] h R := ACalls.intoG k10 rfl hw
abbrev DateD : Ds := .pair .int (.pair .int .int)
/-- a time is among those at which clocks show what they show then -/
theorem back_mem {t : Tab} {n : Int} (he : wallE t n = 0) : whenE t (wallD t n) (wallS t n) = 0 ∧ n ∈ whenV t (wallD t n) (wallS t n) := by
  have hl : lookE t n = 0 := by
    rw [wallE] at he
    split at he
    · assumption
    · exact he
  obtain ⟨hv, hb⟩ := lookE_ok hl
  have hls := locE_ok (thereL_locE hv n)
  have hbt := timeB_iff.1 hb
  rw [wallE, if_pos hl] at he
  rw [wallD, wallS, if_pos hl, if_pos hl]
  unfold shE at he
  split at he
  · rename_i hin
    rw [shD, shS, if_pos hin, if_pos hin]
    have hin' := hin
    unfold inD at hin'
    obtain ⟨a, b⟩ := dateOf_spec (days := (n + (thereL t n).1) / 86400) hin'.1 hin'.2
    have hw : whenE t (dateOf ((n + (thereL t n).1) / 86400)) ((n + (thereL t n).1) % 86400) = 0 := by
      rw [whenE, if_neg (fun e => e hv), if_pos ⟨a, by omega, by omega⟩]
    refine ⟨hw, ?_⟩
    rw [whenV, if_pos hw, b, whenL_mem]
    exact ⟨hb, by omega⟩
  · cases he
/-- clocks show it at each of the times -/
theorem there_back {t : Tab} {y m d s x : Int} (he : whenE t (y, m, d) s = 0) (hx : x ∈ whenV t (y, m, d) s) : wallD t x = (y, m, d) ∧ wallS t x = s ∧ wallE t x = 0 := by
  rw [whenV, if_pos he, whenL_mem] at hx
  have hw : checkT t = 0 ∧ isDate y m d = true ∧ 0 ≤ s ∧ s < 86400 := by
    unfold whenE at he
    split at he
    · rename_i h1; exact absurd he h1
    · rename_i h1
      split at he
      · rename_i h2; exact ⟨Decidable.of_not_not h1, h2⟩
      · cases he
  obtain ⟨hv, hd, h0, h1⟩ := hw
  have hl : lookE t x = 0 := by rw [lookE, if_neg (fun e => e hv), if_pos hx.1]
  have hnb := num_bd hd
  have hx2 : (thereL t x).1 = num y m d * 86400 + s - x := hx.2
  have e1 : (x + (thereL t x).1) / 86400 = num y m d := by omega
  have e2 : (x + (thereL t x).1) % 86400 = s := by omega
  have hin : inD ((x + (thereL t x).1) / 86400) := by rw [e1]; exact hnb
  rw [wallD, wallS, wallE, if_pos hl, if_pos hl, if_pos hl, shD, shS, shE, if_pos hin, if_pos hin, if_pos hin, e1, e2]
  exact ⟨dateOf_num hd, rfl, rfl⟩
theorem whenV_rise (t : Tab) (y m d s : Int) : (whenV t (y, m, d) s).Pairwise (· < ·) := by
  unfold whenV
  split
  · exact whenL_rise _ _
  · simp
theorem whenV_len (t : Tab) (d : Int × Int × Int) (s : Int) : (whenV t d s).length ≤ 1000000000000 := by
  unfold whenV
  split
  · rename_i he
    have hv : checkT t = 0 := by
      unfold whenE at he
      split at he
      · rename_i h1; exact absurd he h1
      · rename_i h1; exact Decidable.of_not_not h1
    have := checkT_len hv
    have h2 := shI_len t
    have h3 := wl_len t (num d.1 d.2.1 d.2.2 * 86400 + s) (shI t)
    rw [whenL, sortI_len]
    omega
  · simp
theorem when_aL {t : Tab} {D : Int × Int × Int} {s : Int} {L : List Int} {full : Bool} {h : AH} (ht : okT t) (hL : whenV t D s = L) :
    ACalls Try.prog 26 [.agg [iv t.1.1, iv t.1.2.1, sv t.1.2.2, .sl t.2.length 4 full (rows chgC t.2)], .agg [iv D.1, iv D.2.1, iv D.2.2], iv s] h fun x h' => h' = h ∧ x = .ret (.tup [.sl L.length 1 false (rows intC L), iv (whenE t D s)]) := by
  subst hL
  exact when_a (t := t) (y := D.1) (m := D.2.1) (d := D.2.2) (s := s) ht
theorem walk {t : Tab} {n y m d s : Int} {h : AH} (ht : okT t) : ACalls Try.prog 10 [tabA t, iv n, .agg [iv y, iv m, iv d], iv s] h fun x h' => h' = h ∧ x = .ret (bv true) := by
  obtain ⟨L, hL⟩ : ∃ L, whenV t (wallD t n) (wallS t n) = L := ⟨_, rfl⟩
  obtain ⟨V, hV⟩ : ∃ V, whenV t (y, m, d) s = V := ⟨_, rfl⟩
  have hz1 : L.length ≤ 1000000000000 := hL ▸ whenV_len t (wallD t n) (wallS t n)
  have hz2 : V.length ≤ 1000000000000 := hV ▸ whenV_len t (y, m, d) s
  have hz3 : whenE t (y, m, d) s ≠ 0 → V = [] := fun h => by rw [← hV, whenV, if_neg h]
  have hz4 : V.Pairwise (· < ·) := hV ▸ whenV_rise t y m d s
  have hz5 : whenE t (y, m, d) s = 0 → ∀ (j : Nat) (hj : j < V.length), wallD t V[j] = (y, m, d) ∧ wallS t V[j] = s ∧ wallE t V[j] = 0 := fun h j hj => there_back h (by rw [hV]; exact List.getElem_mem hj)
  refine i10 ?_
  intro N hn hlt hlA hbd
  try simp only [AV.bdL, AV.bd, and_true, true_and] at hbd
  refine w_seq ?_
  refine w_reg ?_
  refine s_eff rfl rfl (e_box (cvl lk0 rfl) rfl (hl0 hn) ha0) pt4 ?_
  refine s_eff rfl rfl (e_box (cvl lk2 rfl) rfl (hl1 hn) ha1) pt6 ?_
  refine s_val rfl (v_mv lkb) pt8 ?_
  refine s_nil ?_
  refine n_seq ?_
  refine w_seq ?_
  refine w_seq ?_
  refine w_reg ?_
  refine s_callp mp0 (lbegun_a) pt21 ?_
  refine s_val rfl (v_notB lk21) pt22 ?_
  refine s_nil ?_
  refine n_seq ?_
  refine w_condF lk22 ?_
  refine w_skip ?_
  refine n_seq ?_
  refine w_seq ?_
  refine w_reg ?_
  refine s_val rfl (v_loadpA lk4 (hga hn rfl) LawLocalBack_tk0_4 rfl) pt24 ?_
  refine s_val rfl (v_mv lk1) pt25 ?_
  refine s_callp (mp1 lk24 (mp1 lk25 mp0)) (wall_a (t := t) ht) pt26 ?_
  refine s_val rfl (v_mv lk26) pt23 ?_
  refine s_val rfl (v_ext lk23 gt0) pt27 ?_
  refine s_val rfl (v_ext lk23 gt1) pt28 ?_
  refine s_val rfl (v_ext lk23 gt2) pt29 ?_
  refine s_eff rfl rfl (e_new (hl2 hn) ha2) pt9 ?_
  refine s_eff rfl rfl (e_store lk9 (cvl lk27 rfl) (hga hn rfl) rfl (Nat.le_of_ble_eq_true rfl) rfl LawLocalBack_sc0_3 (hs2 hn)) ptn ?_
  refine s_val rfl (v_mv lk28) pt10 ?_
  refine s_val rfl (v_mv lk29) pt11 ?_
  refine s_nil ?_
  refine n_seq ?_
  refine w_seq ?_
  refine w_seq ?_
  refine w_reg ?_
  refine s_val rfl (v_mv lk11) pt30 ?_
  refine s_val rfl (v_eql lk30 lki) pt31 ?_
  refine s_nil ?_
  refine n_seq ?_
  first | refine w_cond lk31 (fun hc2 => ?_) (fun hc2 => ?_) | refine w_condB lk31 (fun hc2 => ?_) (fun hc2 => ?_)
  · skip
    obtain ⟨hb1, hb2⟩ := back_mem hc2
    rw [hL] at hb2
    refine w_seq ?_
    refine w_reg ?_
    refine s_val rfl (v_loadpA lk4 (hga hn rfl) LawLocalBack_tk0_4 rfl) pt33 ?_
    refine s_val rfl (v_loadpA lk9 (hga hn rfl) LawLocalBack_tk0_3 rfl) pt34 ?_
    refine s_val rfl (v_mv lk10) pt35 ?_
    refine s_callp (mp1 lk33 (mp1 lk34 (mp1 lk35 mp0))) (when_aL (t := t) (D := wallD t n) (s := wallS t n) ht hL) pt36 ?_
    refine s_val rfl (v_mv lk36) pt32 ?_
    refine s_val rfl (v_ext lk32 gt0) pt37 ?_
    refine s_val rfl (v_ext lk32 gt1) pt38 ?_
    refine s_val rfl (v_mv lk37) pt12 ?_
    refine s_val rfl (v_mv lk38) pt13 ?_
    refine s_nil ?_
    refine n_seq ?_
    refine w_seq ?_
    refine w_reg ?_
    refine s_val rfl (v_mv lkb) pt14 ?_
    refine s_nil ?_
    refine n_seq ?_
    refine w_seq ?_
    refine w_seq ?_
    refine w_reg ?_
    refine s_val rfl (v_mv lki) pt15 ?_
    refine s_nil ?_
    refine n_seq ?_
    refine w_block ?_
    refine w_loop (ι := Nat) (fun (k : Nat) => [(14, bv (decide (n ∈ L.take k))), (15, iv (k : Int)), (39, .any), (40, .any), (41, .any), (42, .any), (43, .any), (44, .any), (45, .any), (46, .any), (47, .any), (48, .any), (49, .any), (50, .any), (51, .any), (52, .any), (53, .any)]) (fun (k : Nat) => []) (fun (k : Nat) => k ≤ L.length) (fun (k : Nat) => L.length - k) (0) (by omega) (by try simp only [setsT, setsE, List.set_cons_zero, List.set_cons_succ]; exact ALe.same (wk1 rfl (wk1 rfl (wk1 rfl (wk1 rfl (wk1 rfl (wk1 rfl (wk1 rfl (wk1 rfl (wk1 rfl (wk1 rfl (wk1 rfl (wk1 rfl (wk1 rfl (wk1 rfl (wk1 (by first | rfl | exact ivx (by omega) | (simp; done)) (wk1 (by first | rfl | exact ivx (by omega) | (simp; done)) (wk1 rfl (wk1 rfl (wk1 rfl (wk1 rfl (wk1 rfl (wk1 rfl (wk1 rfl (wk1 rfl (wk1 rfl (wk1 rfl (wk1 rfl (wk1 rfl (wk1 rfl (wk1 rfl (wk1 rfl (wk1 rfl (wk1 rfl (wk1 rfl (wk1 rfl (wk1 rfl (wk1 rfl (wk1 rfl (wk1 rfl (wka (wka (wka (wka (wka (wka (wka (wka (wka (wka (wka (wka (wka (wka (wka (wk1 rfl (wk1 rfl (wk1 rfl (wk1 rfl (wk1 rfl (wk1 rfl (wk1 rfl (wk1 rfl (wk1 rfl (wk1 rfl (wk1 rfl (wk1 rfl (wk1 rfl (wk1 rfl (wk1 rfl (wk1 rfl (wk1 rfl (wk1 rfl (wk1 rfl (wk1 rfl (wk1 rfl (wk1 rfl (wk1 rfl (wk1 rfl (wk1 rfl (wk1 rfl (wk1 rfl (wk1 rfl (wk1 rfl (wk1 rfl (wk1 rfl (wk1 rfl (wk1 rfl (wk1 rfl (wk1 rfl (wk1 rfl (wk1 rfl (wk1 rfl (wk1 rfl (wk1 rfl (wk1 rfl (wk1 rfl (wk1 rfl (wk1 rfl (wk1 rfl (wk1 rfl (wk1 rfl (wk1 rfl (wk1 rfl (wk1 rfl (wk1 rfl (wk1 rfl (wk1 rfl (wk1 rfl (wk1 rfl (wk1 rfl (wk1 rfl (wk1 rfl (wk1 rfl (wk1 rfl (wk1 rfl (wk1 rfl wk0)))))))))))))))))))))))))))))))))))))))))))))))))))))))))))))))))))))))))))))))))))))))))))))))))))))))))))))))))))) rfl) ?_
    rintro k hi1
    try simp only [setsT, setsE, List.set_cons_zero, List.set_cons_succ]
    have hk1 := hi1
    refine w_seq ?_
    refine w_seq ?_
    refine w_reg ?_
    refine s_val rfl (v_mv lk15) pt39 ?_
    refine s_val rfl (v_mv lk12) pt40 ?_
    refine s_val rfl (v_lenL lk40) pt41 ?_
    refine s_val rfl (v_lss lk39 lk41) pt42 ?_
    refine s_nil ?_
    refine n_seq ?_
    first | refine w_cond lk42 (fun hc3 => ?_) (fun hc3 => ?_) | refine w_condB lk42 (fun hc3 => ?_) (fun hc3 => ?_)
    · skip
      refine w_skip ?_
      refine n_seq ?_
      refine w_seq ?_
      refine w_block ?_
      refine w_reg ?_
      refine s_val rfl (v_mv lk14) pt45 ?_
      refine s_val rfl (v_mv lk45) pt46 ?_
      first | refine s_splitP gt46 pt46 pt46 (fun hg46 => ?_) (fun hg46 => ?_) | refine s_splitB gt46 pt46 pt46 (fun hg46 => ?_) (fun hg46 => ?_)
      · skip
        refine s_no gt46 pt47 ?_
        refine s_no gt46 pt48 ?_
        refine s_no gt46 pt49 ?_
        refine s_no gt46 pt50 ?_
        refine s_no gt46 pt51 ?_
        refine s_no gt46 pt52 ?_
        refine s_val rfl (v_pickT lk46 lkb) pt53 ?_
        refine s_val rfl (v_mv lk53) pt14 ?_
        refine s_nil ?_
        refine n_blk ?_
        refine n_seq ?_
        refine w_reg ?_
        refine s_val rfl (v_mv lk15) pt43 ?_
        refine s_val rfl (v_add lk43 lki (by omega) (by omega)) pt44 ?_
        refine s_val rfl (v_mv lk44) pt15 ?_
        refine s_nil ?_
        refine n_thn ?_
        have hk2 : k < L.length := by simpa using hc3
        have hk4 : L.take (k + 1) = L.take k ++ [L[k]] := List.take_succ_eq_append_getElem hk2
        have hk5 : n ∈ L.take (k + 1) ↔ n ∈ L.take k ∨ L[k] = n := by rw [hk4, List.mem_append, List.mem_singleton, eq_comm (a := n)]
        refine LoopTo.mk (k + 1) (by omega) (by (try dsimp only); omega) (by (try dsimp only); (try simp only [setsT, setsE, List.set_cons_zero, List.set_cons_succ]); exact ALe.same (wk1 rfl (wk1 rfl (wk1 rfl (wk1 rfl (wk1 rfl (wk1 rfl (wk1 rfl (wk1 rfl (wk1 rfl (wk1 rfl (wk1 rfl (wk1 rfl (wk1 rfl (wk1 rfl (wk1 (by first | rfl | exact ivx (by omega) | exact bvx (decide_eq_true (by simp)) | exact bvx (decide_eq_true (hk5.2 (Or.inl hg46))).symm | exact bvx (decide_eq_true (hk5.2 (Or.inl hg46))) | exact bvx (decide_eq_decide.2 ⟨fun e => hk5.2 (Or.inr e), fun e => (hk5.1 e).resolve_left hg46⟩) | exact bvx (decide_eq_decide.2 ⟨fun e => (hk5.1 e).resolve_left hg46, fun e => hk5.2 (Or.inr e)⟩)) (wk1 (by first | rfl | exact ivx (by omega) | exact bvx (decide_eq_true (by simp)) | exact bvx (decide_eq_true (hk5.2 (Or.inl hg46))).symm | exact bvx (decide_eq_true (hk5.2 (Or.inl hg46))) | exact bvx (decide_eq_decide.2 ⟨fun e => hk5.2 (Or.inr e), fun e => (hk5.1 e).resolve_left hg46⟩) | exact bvx (decide_eq_decide.2 ⟨fun e => (hk5.1 e).resolve_left hg46, fun e => hk5.2 (Or.inr e)⟩)) (wk1 rfl (wk1 rfl (wk1 rfl (wk1 rfl (wk1 rfl (wk1 rfl (wk1 rfl (wk1 rfl (wk1 rfl (wk1 rfl (wk1 rfl (wk1 rfl (wk1 rfl (wk1 rfl (wk1 rfl (wk1 rfl (wk1 rfl (wk1 rfl (wk1 rfl (wk1 rfl (wk1 rfl (wk1 rfl (wk1 rfl (wka (wka (wka (wka (wka (wka (wka (wka (wka (wka (wka (wka (wka (wka (wka (wk1 rfl (wk1 rfl (wk1 rfl (wk1 rfl (wk1 rfl (wk1 rfl (wk1 rfl (wk1 rfl (wk1 rfl (wk1 rfl (wk1 rfl (wk1 rfl (wk1 rfl (wk1 rfl (wk1 rfl (wk1 rfl (wk1 rfl (wk1 rfl (wk1 rfl (wk1 rfl (wk1 rfl (wk1 rfl (wk1 rfl (wk1 rfl (wk1 rfl (wk1 rfl (wk1 rfl (wk1 rfl (wk1 rfl (wk1 rfl (wk1 rfl (wk1 rfl (wk1 rfl (wk1 rfl (wk1 rfl (wk1 rfl (wk1 rfl (wk1 rfl (wk1 rfl (wk1 rfl (wk1 rfl (wk1 rfl (wk1 rfl (wk1 rfl (wk1 rfl (wk1 rfl (wk1 rfl (wk1 rfl (wk1 rfl (wk1 rfl (wk1 rfl (wk1 rfl (wk1 rfl (wk1 rfl (wk1 rfl (wk1 rfl (wk1 rfl (wk1 rfl (wk1 rfl (wk1 rfl (wk1 rfl (wk1 rfl wk0)))))))))))))))))))))))))))))))))))))))))))))))))))))))))))))))))))))))))))))))))))))))))))))))))))))))))))))))))))) rfl)
      · skip
        refine s_do gt46 ?_
        refine s_val rfl (v_mv lk12) pt47 ?_
        refine s_do gt46 ?_
        refine s_val rfl (v_mv lk15) pt48 ?_
        refine s_do gt46 ?_
        refine s_val rfl (v_iaR lk47 lk48 int_len1 (Nat.le_of_ble_eq_true rfl) (by first | rfl | omega) (by omega) (by first | rfl | omega) rfl) pt49 ?_
        refine s_do gt46 ?_
        refine s_val rfl (v_loadr lk49 gt0) pt50 ?_
        refine s_do gt46 ?_
        refine s_val rfl (v_mv lk1) pt51 ?_
        refine s_do gt46 ?_
        refine s_val rfl (v_eql lk50 lk51) pt52 ?_
        refine s_val rfl (v_pickF lk46 lk52) pt53 ?_
        refine s_val rfl (v_mv lk53) pt14 ?_
        refine s_nil ?_
        refine n_blk ?_
        refine n_seq ?_
        refine w_reg ?_
        refine s_val rfl (v_mv lk15) pt43 ?_
        refine s_val rfl (v_add lk43 lki (by omega) (by omega)) pt44 ?_
        refine s_val rfl (v_mv lk44) pt15 ?_
        refine s_nil ?_
        refine n_thn ?_
        have hk2 : k < L.length := by simpa using hc3
        have hk4 : L.take (k + 1) = L.take k ++ [L[k]] := List.take_succ_eq_append_getElem hk2
        have hk5 : n ∈ L.take (k + 1) ↔ n ∈ L.take k ∨ L[k] = n := by rw [hk4, List.mem_append, List.mem_singleton, eq_comm (a := n)]
        refine LoopTo.mk (k + 1) (by omega) (by (try dsimp only); omega) (by (try dsimp only); (try simp only [setsT, setsE, List.set_cons_zero, List.set_cons_succ]); exact ALe.same (wk1 rfl (wk1 rfl (wk1 rfl (wk1 rfl (wk1 rfl (wk1 rfl (wk1 rfl (wk1 rfl (wk1 rfl (wk1 rfl (wk1 rfl (wk1 rfl (wk1 rfl (wk1 rfl (wk1 (by first | rfl | exact ivx (by omega) | exact bvx (decide_eq_true (by simp)) | exact bvx (decide_eq_true (hk5.2 (Or.inl hg46))).symm | exact bvx (decide_eq_true (hk5.2 (Or.inl hg46))) | exact bvx (decide_eq_decide.2 ⟨fun e => hk5.2 (Or.inr e), fun e => (hk5.1 e).resolve_left hg46⟩) | exact bvx (decide_eq_decide.2 ⟨fun e => (hk5.1 e).resolve_left hg46, fun e => hk5.2 (Or.inr e)⟩)) (wk1 (by first | rfl | exact ivx (by omega) | exact bvx (decide_eq_true (by simp)) | exact bvx (decide_eq_true (hk5.2 (Or.inl hg46))).symm | exact bvx (decide_eq_true (hk5.2 (Or.inl hg46))) | exact bvx (decide_eq_decide.2 ⟨fun e => hk5.2 (Or.inr e), fun e => (hk5.1 e).resolve_left hg46⟩) | exact bvx (decide_eq_decide.2 ⟨fun e => (hk5.1 e).resolve_left hg46, fun e => hk5.2 (Or.inr e)⟩)) (wk1 rfl (wk1 rfl (wk1 rfl (wk1 rfl (wk1 rfl (wk1 rfl (wk1 rfl (wk1 rfl (wk1 rfl (wk1 rfl (wk1 rfl (wk1 rfl (wk1 rfl (wk1 rfl (wk1 rfl (wk1 rfl (wk1 rfl (wk1 rfl (wk1 rfl (wk1 rfl (wk1 rfl (wk1 rfl (wk1 rfl (wka (wka (wka (wka (wka (wka (wka (wka (wka (wka (wka (wka (wka (wka (wka (wk1 rfl (wk1 rfl (wk1 rfl (wk1 rfl (wk1 rfl (wk1 rfl (wk1 rfl (wk1 rfl (wk1 rfl (wk1 rfl (wk1 rfl (wk1 rfl (wk1 rfl (wk1 rfl (wk1 rfl (wk1 rfl (wk1 rfl (wk1 rfl (wk1 rfl (wk1 rfl (wk1 rfl (wk1 rfl (wk1 rfl (wk1 rfl (wk1 rfl (wk1 rfl (wk1 rfl (wk1 rfl (wk1 rfl (wk1 rfl (wk1 rfl (wk1 rfl (wk1 rfl (wk1 rfl (wk1 rfl (wk1 rfl (wk1 rfl (wk1 rfl (wk1 rfl (wk1 rfl (wk1 rfl (wk1 rfl (wk1 rfl (wk1 rfl (wk1 rfl (wk1 rfl (wk1 rfl (wk1 rfl (wk1 rfl (wk1 rfl (wk1 rfl (wk1 rfl (wk1 rfl (wk1 rfl (wk1 rfl (wk1 rfl (wk1 rfl (wk1 rfl (wk1 rfl (wk1 rfl (wk1 rfl (wk1 rfl wk0)))))))))))))))))))))))))))))))))))))))))))))))))))))))))))))))))))))))))))))))))))))))))))))))))))))))))))))))))))) rfl)
    · skip
      refine w_exit ?_
      refine x_thn ?_
      refine x_thn ?_
      refine x_blk ?_
      refine n_seq ?_
      refine w_seq ?_
      refine w_reg ?_
      refine s_val rfl (v_mv lk13) pt54 ?_
      refine s_val rfl (v_neq lk54 lki) pt55 ?_
      refine s_val rfl (v_mv lk55) pt56 ?_
      first | refine s_splitP gt56 pt56 pt56 (fun hg56 => ?_) (fun hg56 => ?_) | refine s_splitB gt56 pt56 pt56 (fun hg56 => ?_) (fun hg56 => ?_)
      · skip
        refine s_no gt56 pt57 ?_
        refine s_no gt56 pt58 ?_
        refine s_val rfl (v_pickT lk56 lkb) pt59 ?_
        refine s_nil ?_
        refine n_seq ?_
        refine w_condT lk59 ?_
        refine w_seq ?_
        refine w_reg ?_
        refine s_val rfl (v_mv lkb) pt8 ?_
        refine s_nil ?_
        refine n_seq ?_
        refine w_rets ?_
        refine r_thn ?_
        refine w_ret (rs1 (rr_t gt8)) ?_
        refine rt (by first | rfl | (simp only [AV.lt, AV.ltL, Ent.lt, List.all_cons, List.all_nil, Bool.and_true, Bool.and_self, decide_true, chg_lt, int_lt]; done) | (simp [AV.lt, AV.ltL, Ent.lt, chg_lt, int_lt, *]; done) | (simp [AV.lt, AV.ltL, Ent.lt, chg_lt, int_lt, *]; omega)) ?_
        exact absurd hb1 (by simpa using hg56)
      · skip
        refine s_do gt56 ?_
        refine s_val rfl (v_mv lk14) pt57 ?_
        refine s_do gt56 ?_
        refine s_val rfl ((by first | exact v_not lk57 | exact v_notB lk57)) pt58 ?_
        refine s_val rfl (v_pickF lk56 lk58) pt59 ?_
        refine s_nil ?_
        refine n_seq ?_
        first | refine w_cond lk59 (fun hc4 => ?_) (fun hc4 => ?_) | refine w_condB lk59 (fun hc4 => ?_) (fun hc4 => ?_)
        · skip
          refine w_seq ?_
          refine w_reg ?_
          refine s_val rfl (v_mv lkb) pt8 ?_
          refine s_nil ?_
          refine n_seq ?_
          refine w_rets ?_
          refine r_thn ?_
          refine w_ret (rs1 (rr_t gt8)) ?_
          refine rt (by first | rfl | (simp only [AV.lt, AV.ltL, Ent.lt, List.all_cons, List.all_nil, Bool.and_true, Bool.and_self, decide_true, chg_lt, int_lt]; done) | (simp [AV.lt, AV.ltL, Ent.lt, chg_lt, int_lt, *]; done) | (simp [AV.lt, AV.ltL, Ent.lt, chg_lt, int_lt, *]; omega)) ?_
          exact absurd (by rw [List.take_of_length_le (by omega)]; exact hb2) hc4
        · skip
          refine w_skip ?_
          refine n_seq ?_
          refine w_seq ?_
          refine w_reg ?_
          refine s_val rfl (v_loadpA lk4 (hga hn rfl) LawLocalBack_tk0_4 rfl) pt61 ?_
          refine s_val rfl (v_loadpA lk6 (hga hn rfl) LawLocalBack_tk0_3 rfl) pt62 ?_
          refine s_val rfl (v_mv lk3) pt63 ?_
          refine s_callp (mp1 lk61 (mp1 lk62 (mp1 lk63 mp0))) (when_aL (t := t) (D := (y, m, d)) (s := s) ht hV) pt64 ?_
          refine s_val rfl (v_mv lk64) pt60 ?_
          refine s_val rfl (v_ext lk60 gt0) pt65 ?_
          refine s_val rfl (v_ext lk60 gt1) pt66 ?_
          refine s_val rfl (v_mv lk65) pt16 ?_
          refine s_val rfl (v_mv lk66) pt11 ?_
          refine s_nil ?_
          refine n_seq ?_
          refine w_seq ?_
          refine w_seq ?_
          refine w_reg ?_
          refine s_val rfl (v_mv lk11) pt67 ?_
          refine s_val rfl (v_neq lk67 lki) pt68 ?_
          refine s_nil ?_
          refine n_seq ?_
          first | refine w_cond lk68 (fun hc5 => ?_) (fun hc5 => ?_) | refine w_condB lk68 (fun hc5 => ?_) (fun hc5 => ?_)
          · skip
            refine w_seq ?_
            refine w_reg ?_
            refine s_val rfl (v_mv lk16) pt69 ?_
            refine s_val rfl (v_lenL lk69) (ptS pt0) ?_
            refine s_val rfl (v_eql (lkS lk0) lki) (ptS pt1) ?_
            refine s_val rfl (v_mv (lkS lk1)) pt8 ?_
            refine s_nil ?_
            refine n_seq ?_
            refine w_rets ?_
            refine r_thn ?_
            refine w_ret (rs1 (rr_t gt8)) ?_
            refine rt (by first | rfl | (simp only [AV.lt, AV.ltL, Ent.lt, List.all_cons, List.all_nil, Bool.and_true, Bool.and_self, decide_true, chg_lt, int_lt]; done) | (simp [AV.lt, AV.ltL, Ent.lt, chg_lt, int_lt, *]; done) | (simp [AV.lt, AV.ltL, Ent.lt, chg_lt, int_lt, *]; omega)) ?_
            exact bvx (decide_eq_true (by rw [hz3 hc5]; rfl))
          · skip
            refine w_skip ?_
            refine n_seq ?_
            refine w_seq ?_
            refine w_seq ?_
            refine w_reg ?_
            refine s_val rfl (v_mv lki) pt17 ?_
            refine s_nil ?_
            refine n_seq ?_
            refine w_block ?_
            refine w_loop (ι := Nat) (fun (k : Nat) => [(17, iv (k : Int)), (8, .any), (18, .any), (19, .any), (20, .any), (72, .any), (73, .any), (74, .any), (75, .any), (76, .any), (77, .any), (78, .any), (79, .any), (80, .any), (81, .any), (82, .any), (83, .any), (84, .any), (85, .any), (86, .any), (87, .any), (88, .any), (89, .any), (90, .any), (91, .any), (92, .any), (93, .any), (94, .any), (95, .any), (96, .any), (97, .any), (98, .any), (99, .any), (100, .any), (101, .any), (102, .any), (103, .any), (104, .any), (105, .any), (106, .any), (107, .any), (108, .any), (109, .any), (110, .any), (111, .any), (112, .any), (113, .any), (114, .any), (115, .any)]) (fun (k : Nat) => []) (fun (k : Nat) => k ≤ V.length) (fun (k : Nat) => V.length - k) (0) (by omega) (by try simp only [setsT, setsE, List.set_cons_zero, List.set_cons_succ]; exact ALe.same (wk1 rfl (wk1 rfl (wk1 rfl (wk1 rfl (wk1 rfl (wk1 rfl (wk1 rfl (wk1 rfl (wka (wk1 rfl (wk1 rfl (wk1 rfl (wk1 rfl (wk1 rfl (wk1 rfl (wk1 rfl (wk1 rfl (wk1 (by first | rfl | exact ivx (by omega) | (simp; done)) (wka (wka (wka (wk1 rfl (wk1 rfl (wk1 rfl (wk1 rfl (wk1 rfl (wk1 rfl (wk1 rfl (wk1 rfl (wk1 rfl (wk1 rfl (wk1 rfl (wk1 rfl (wk1 rfl (wk1 rfl (wk1 rfl (wk1 rfl (wk1 rfl (wk1 rfl (wk1 rfl (wk1 rfl (wk1 rfl (wk1 rfl (wk1 rfl (wk1 rfl (wk1 rfl (wk1 rfl (wk1 rfl (wk1 rfl (wk1 rfl (wk1 rfl (wk1 rfl (wk1 rfl (wk1 rfl (wk1 rfl (wk1 rfl (wk1 rfl (wk1 rfl (wk1 rfl (wk1 rfl (wk1 rfl (wk1 rfl (wk1 rfl (wk1 rfl (wk1 rfl (wk1 rfl (wk1 rfl (wk1 rfl (wk1 rfl (wk1 rfl (wk1 rfl (wk1 rfl (wka (wka (wka (wka (wka (wka (wka (wka (wka (wka (wka (wka (wka (wka (wka (wka (wka (wka (wka (wka (wka (wka (wka (wka (wka (wka (wka (wka (wka (wka (wka (wka (wka (wka (wka (wka (wka (wka (wka (wka (wka (wka (wka (wka wk0)))))))))))))))))))))))))))))))))))))))))))))))))))))))))))))))))))))))))))))))))))))))))))))))))))))))))))))))))))) rfl) ?_
            rintro k hi2
            try simp only [setsT, setsE, List.set_cons_zero, List.set_cons_succ]
            have hk1 := hi2
            refine w_seq ?_
            refine w_seq ?_
            refine w_reg ?_
            refine s_val rfl (v_mv lk17) (ptS pt2) ?_
            refine s_val rfl (v_mv lk16) (ptS pt3) ?_
            refine s_val rfl (v_lenL (lkS lk3)) (ptS pt4) ?_
            refine s_val rfl (v_lss (lkS lk2) (lkS lk4)) (ptS pt5) ?_
            refine s_nil ?_
            refine n_seq ?_
            first | refine w_cond (lkS lk5) (fun hc6 => ?_) (fun hc6 => ?_) | refine w_condB (lkS lk5) (fun hc6 => ?_) (fun hc6 => ?_)
            · skip
              have hk2 : k < V.length := by simpa using hc6
              obtain ⟨hw1, hw2, hw3⟩ := hz5 (Decidable.of_not_not hc5) k hk2
              refine w_skip ?_
              refine n_seq ?_
              refine w_seq ?_
              refine w_block ?_
              refine w_seq ?_
              refine w_drwE ?_
              refine d_val rfl (v_loadpA lk4 (hga hn rfl) LawLocalBack_tk0_4 rfl) (ptS pt9) ?_
              refine d_val rfl (v_mv lk16) (ptS pt10) ?_
              refine d_val rfl (v_mv lk17) (ptS pt11) ?_
              refine d_val rfl (v_iaR (k := k) (lkS lk10) (lkS lk11) int_len1 (Nat.le_of_ble_eq_true rfl) (by first | rfl | omega) (by omega) (by first | rfl | omega) rfl) (ptS pt12) ?_
              refine d_val rfl (v_loadr (lkS lk12) gt0) (ptS pt13) ?_
              refine d_callp (mp1 (lkS lk9) (mp1 (lkS lk13) mp0)) (fun hE hX => wall_a (t := t) ht) (ptS pt14) ?_
              refine d_val rfl (v_mv (lkS lk14)) (ptS pt8) ?_
              refine d_val rfl (v_ext (lkS lk8) gt0) (ptS pt15) ?_
              refine d_val rfl (v_ext (lkS lk8) gt1) (ptS pt16) ?_
              refine d_val rfl (v_ext (lkS lk8) gt2) (ptS pt17) ?_
              refine d_eff rfl rfl (hlk hn rfl) (l_new) pt18 LawLocalBack_lap0 ?_
              refine d_nil ?_
              refine e_ent LawLocalBack_lj3_1 ?_
              refine s_eff rfl rfl (e_store lk18 (cvl (lkS lk15) rfl) (hga hn rfl) rfl (Nat.le_of_ble_eq_true rfl) rfl LawLocalBack_sc0_3 (hs3 hn)) ptn ?_
              refine s_val rfl (v_mv (lkS lk16)) pt19 ?_
              refine s_val rfl (v_mv (lkS lk17)) pt20 ?_
              refine s_nil ?_
              refine n_seq ?_
              refine w_seq ?_
              refine w_drwE ?_
              refine d_val rfl (v_mv lk20) (ptS pt18) ?_
              refine d_val rfl (v_neq (lkS lk18) lki) (ptS pt19) ?_
              refine d_val rfl (v_mv (lkS lk19)) (ptS pt20) ?_
              refine d_known (gtS gt20) (b := false) (by exact decide_eq_false (fun e => e hw3)) (ptS pt20) ?_
              refine d_do (gtS gt20) ?_
              refine d_val rfl (v_loadpA lk18 (hga hn rfl) LawLocalBack_tk0_3 rfl) (ptS pt21) ?_
              refine d_do (gtS gt20) ?_
              refine d_val rfl (v_loadpA lk6 (hga hn rfl) LawLocalBack_tk0_3 rfl) (ptS pt22) ?_
              refine d_do (gtS gt20) ?_
              refine d_val rfl (v_eqsN (lkS lk21) (lkS lk22) LawLocalBack_eq_iii) (ptS pt23) ?_
              refine d_val rfl (v_pickF (lkS lk20) (lkS lk23)) (ptS pt24) ?_
              refine d_val rfl (v_mv (lkS lk24)) (ptS pt25) ?_
              refine d_known (gtS gt25) (b := false) (by exact decide_eq_false (fun e => e (by rw [hw1]; exact ⟨rfl, rfl, rfl⟩))) (ptS pt25) ?_
              refine d_do (gtS gt25) ?_
              refine d_val rfl (v_mv lk19) (ptS pt26) ?_
              refine d_do (gtS gt25) ?_
              refine d_val rfl (v_mv lk3) (ptS pt27) ?_
              refine d_do (gtS gt25) ?_
              refine d_val rfl (v_neq (lkS lk26) (lkS lk27)) (ptS pt28) ?_
              refine d_val rfl (v_pickF (lkS lk25) (lkS lk28)) (ptS pt29) ?_
              refine d_val rfl (v_mv (lkS lk29)) (ptS pt30) ?_
              refine d_known (gtS gt30) (b := false) (by exact decide_eq_false (fun e => e hw2)) (ptS pt30) ?_
              refine d_do (gtS gt30) ?_
              refine d_val rfl (v_mv lk17) (ptS pt31) ?_
              refine d_do (gtS gt30) ?_
              refine d_val rfl (v_gtr (lkS lk31) lki) (ptS pt32) ?_
              refine d_do (gtS gt30) ?_
              refine d_val rfl (v_mv (lkS lk32)) (ptS pt33) ?_
              first | refine d_splitP (gtS gt33) (ptS pt33) (ptS pt33) (fun hg103 => ?_) (fun hg103 => ?_) | refine d_splitB (gtS gt33) (ptS pt33) (ptS pt33) (fun hg103 => ?_) (fun hg103 => ?_)
              · skip
                refine d_do (gtS gt33) ?_
                refine d_val rfl (v_mv lk16) (ptS pt34) ?_
                refine d_do (gtS gt33) ?_
                refine d_val rfl (v_mv lk17) (ptS pt35) ?_
                refine d_do (gtS gt33) ?_
                refine d_val rfl (v_iaR (k := k) (lkS lk34) (lkS lk35) int_len1 (Nat.le_of_ble_eq_true rfl) (by first | rfl | omega) (by omega) (by first | rfl | omega) rfl) (ptS pt36) ?_
                refine d_do (gtS gt33) ?_
                refine d_val rfl (v_loadr (lkS lk36) gt0) (ptS pt37) ?_
                refine d_do (gtS gt33) ?_
                refine d_val rfl (v_mv lk16) (ptS pt38) ?_
                refine d_do (gtS gt33) ?_
                refine d_val rfl (v_mv lk17) (ptS pt39) ?_
                refine d_do (gtS gt33) ?_
                refine d_val rfl (v_sub (lkS lk39) lki (by omega) (by omega)) (ptS pt40) ?_
                refine d_do (gtS gt33) ?_
                refine d_val rfl (v_iaR (k := k - 1) (lkS lk38) (lkS lk40) int_len1 (Nat.le_of_ble_eq_true rfl) (by first | rfl | omega) (by omega) (by first | rfl | omega) rfl) (ptS pt41) ?_
                refine d_do (gtS gt33) ?_
                refine d_val rfl (v_loadr (lkS lk41) gt0) (ptS pt42) ?_
                refine d_do (gtS gt33) ?_
                refine d_val rfl (v_leq (lkS lk37) (lkS lk42)) (ptS pt43) ?_
                refine d_do (gtS gt30) ?_
                refine d_val rfl (v_pickT (lkS lk33) (lkS lk43)) (ptS pt44) ?_
                refine d_val rfl (v_pickF (lkS lk30) (lkS lk44)) (ptS pt45) ?_
                refine d_nil ?_
                refine e_nil ?_
                refine s_nil ?_
                refine n_seq ?_
                first | refine w_cond (lkS lk45) (fun hc7 => ?_) (fun hc7 => ?_) | refine w_condB (lkS lk45) (fun hc7 => ?_) (fun hc7 => ?_)
                · skip
                  refine w_seq ?_
                  refine w_reg ?_
                  refine s_val rfl (v_mv lkb) pt8 ?_
                  refine s_nil ?_
                  refine n_seq ?_
                  refine w_rets ?_
                  refine r_blk ?_
                  refine r_thn ?_
                  refine r_thn ?_
                  refine r_blk ?_
                  refine r_thn ?_
                  refine w_ret (rs1 (rr_t gt8)) ?_
                  refine rt (by first | rfl | (simp only [AV.lt, AV.ltL, Ent.lt, List.all_cons, List.all_nil, Bool.and_true, Bool.and_self, decide_true, chg_lt, int_lt]; done) | (simp [AV.lt, AV.ltL, Ent.lt, chg_lt, int_lt, *]; done) | (simp [AV.lt, AV.ltL, Ent.lt, chg_lt, int_lt, *]; omega)) ?_
                  exact absurd (List.pairwise_iff_getElem.1 hz4 (k - 1) k (by omega) hk2 (by omega)) (by omega)
                · skip
                  refine w_skip ?_
                  refine n_blk ?_
                  refine n_seq ?_
                  refine w_reg ?_
                  refine s_val rfl (v_mv lk17) (ptS pt6) ?_
                  refine s_val rfl (v_add (lkS lk6) lki (by omega) (by omega)) (ptS pt7) ?_
                  refine s_val rfl (v_mv (lkS lk7)) pt17 ?_
                  refine s_nil ?_
                  refine n_thn ?_
                  refine LoopTo.mk (k + 1) (by omega) (by (try dsimp only); omega) (by (try dsimp only); (try simp only [setsT, setsE, List.set_cons_zero, List.set_cons_succ]); exact ALe.back (wk1 rfl (wk1 rfl (wk1 rfl (wk1 rfl (wk1 rfl (wk1 rfl (wk1 rfl (wk1 rfl (wka (wk1 rfl (wk1 rfl (wk1 rfl (wk1 rfl (wk1 rfl (wk1 rfl (wk1 rfl (wk1 rfl (wk1 (by first | rfl | exact ivx (by omega) | (simp; done)) (wka (wka (wka (wk1 rfl (wk1 rfl (wk1 rfl (wk1 rfl (wk1 rfl (wk1 rfl (wk1 rfl (wk1 rfl (wk1 rfl (wk1 rfl (wk1 rfl (wk1 rfl (wk1 rfl (wk1 rfl (wk1 rfl (wk1 rfl (wk1 rfl (wk1 rfl (wk1 rfl (wk1 rfl (wk1 rfl (wk1 rfl (wk1 rfl (wk1 rfl (wk1 rfl (wk1 rfl (wk1 rfl (wk1 rfl (wk1 rfl (wk1 rfl (wk1 rfl (wk1 rfl (wk1 rfl (wk1 rfl (wk1 rfl (wk1 rfl (wk1 rfl (wk1 rfl (wk1 rfl (wk1 rfl (wk1 rfl (wk1 rfl (wk1 rfl (wk1 rfl (wk1 rfl (wk1 rfl (wk1 rfl (wk1 rfl (wk1 rfl (wk1 rfl (wk1 rfl (wka (wka (wka (wka (wka (wka (wka (wka (wka (wka (wka (wka (wka (wka (wka (wka (wka (wka (wka (wka (wka (wka (wka (wka (wka (wka (wka (wka (wka (wka (wka (wka (wka (wka (wka (wka (wka (wka (wka (wka (wka (wka (wka (wka wk0)))))))))))))))))))))))))))))))))))))))))))))))))))))))))))))))))))))))))))))))))))))))))))))))))))))))))))))))))))) (by rfl) (k := N + 3) (by simp only [List.length_cons, List.length_nil, hn]) (by omega) (by first | rfl | (simp only [AV.lt, AV.ltL, Ent.lt, List.all_cons, List.all_nil, Bool.and_true, Bool.and_self, decide_true, chg_lt, int_lt]; done) | (simp [AV.lt, AV.ltL, Ent.lt, chg_lt, int_lt, *]; done) | (simp [AV.lt, AV.ltL, Ent.lt, chg_lt, int_lt, *]; omega)) (ltw (by omega) hlt) (by first | rfl | (simp only [AV.lt, AV.ltL, Ent.lt, List.all_cons, List.all_nil, Bool.and_true, Bool.and_self, decide_true, chg_lt, int_lt]; done) | (simp [AV.lt, AV.ltL, Ent.lt, chg_lt, int_lt, *]; done) | (simp [AV.lt, AV.ltL, Ent.lt, chg_lt, int_lt, *]; omega)))
              · skip
                refine d_no (gtS gt33) (ptS pt34) ?_
                refine d_no (gtS gt33) (ptS pt35) ?_
                refine d_no (gtS gt33) (ptS pt36) ?_
                refine d_no (gtS gt33) (ptS pt37) ?_
                refine d_no (gtS gt33) (ptS pt38) ?_
                refine d_no (gtS gt33) (ptS pt39) ?_
                refine d_no (gtS gt33) (ptS pt40) ?_
                refine d_no (gtS gt33) (ptS pt41) ?_
                refine d_no (gtS gt33) (ptS pt42) ?_
                refine d_no (gtS gt33) (ptS pt43) ?_
                refine d_do (gtS gt30) ?_
                refine d_val rfl (v_pickF (lkS lk33) lkb) (ptS pt44) ?_
                refine d_val rfl (v_pickF (lkS lk30) (lkS lk44)) (ptS pt45) ?_
                refine d_nil ?_
                refine e_nil ?_
                refine s_nil ?_
                refine n_seq ?_
                refine w_condF (lkS lk45) ?_
                refine w_skip ?_
                refine n_blk ?_
                refine n_seq ?_
                refine w_reg ?_
                refine s_val rfl (v_mv lk17) (ptS pt6) ?_
                refine s_val rfl (v_add (lkS lk6) lki (by omega) (by omega)) (ptS pt7) ?_
                refine s_val rfl (v_mv (lkS lk7)) pt17 ?_
                refine s_nil ?_
                refine n_thn ?_
                refine LoopTo.mk (k + 1) (by omega) (by (try dsimp only); omega) (by (try dsimp only); (try simp only [setsT, setsE, List.set_cons_zero, List.set_cons_succ]); exact ALe.back (wk1 rfl (wk1 rfl (wk1 rfl (wk1 rfl (wk1 rfl (wk1 rfl (wk1 rfl (wk1 rfl (wka (wk1 rfl (wk1 rfl (wk1 rfl (wk1 rfl (wk1 rfl (wk1 rfl (wk1 rfl (wk1 rfl (wk1 (by first | rfl | exact ivx (by omega) | (simp; done)) (wka (wka (wka (wk1 rfl (wk1 rfl (wk1 rfl (wk1 rfl (wk1 rfl (wk1 rfl (wk1 rfl (wk1 rfl (wk1 rfl (wk1 rfl (wk1 rfl (wk1 rfl (wk1 rfl (wk1 rfl (wk1 rfl (wk1 rfl (wk1 rfl (wk1 rfl (wk1 rfl (wk1 rfl (wk1 rfl (wk1 rfl (wk1 rfl (wk1 rfl (wk1 rfl (wk1 rfl (wk1 rfl (wk1 rfl (wk1 rfl (wk1 rfl (wk1 rfl (wk1 rfl (wk1 rfl (wk1 rfl (wk1 rfl (wk1 rfl (wk1 rfl (wk1 rfl (wk1 rfl (wk1 rfl (wk1 rfl (wk1 rfl (wk1 rfl (wk1 rfl (wk1 rfl (wk1 rfl (wk1 rfl (wk1 rfl (wk1 rfl (wk1 rfl (wk1 rfl (wka (wka (wka (wka (wka (wka (wka (wka (wka (wka (wka (wka (wka (wka (wka (wka (wka (wka (wka (wka (wka (wka (wka (wka (wka (wka (wka (wka (wka (wka (wka (wka (wka (wka (wka (wka (wka (wka (wka (wka (wka (wka (wka (wka wk0)))))))))))))))))))))))))))))))))))))))))))))))))))))))))))))))))))))))))))))))))))))))))))))))))))))))))))))))))))) (by rfl) (k := N + 3) (by simp only [List.length_cons, List.length_nil, hn]) (by omega) (by first | rfl | (simp only [AV.lt, AV.ltL, Ent.lt, List.all_cons, List.all_nil, Bool.and_true, Bool.and_self, decide_true, chg_lt, int_lt]; done) | (simp [AV.lt, AV.ltL, Ent.lt, chg_lt, int_lt, *]; done) | (simp [AV.lt, AV.ltL, Ent.lt, chg_lt, int_lt, *]; omega)) (ltw (by omega) hlt) (by first | rfl | (simp only [AV.lt, AV.ltL, Ent.lt, List.all_cons, List.all_nil, Bool.and_true, Bool.and_self, decide_true, chg_lt, int_lt]; done) | (simp [AV.lt, AV.ltL, Ent.lt, chg_lt, int_lt, *]; done) | (simp [AV.lt, AV.ltL, Ent.lt, chg_lt, int_lt, *]; omega)))
            · skip
              refine w_exit ?_
              refine x_thn ?_
              refine x_thn ?_
              refine x_blk ?_
              refine n_seq ?_
              refine w_seq ?_
              refine w_reg ?_
              refine s_val rfl (v_mv lkb) pt8 ?_
              refine s_nil ?_
              refine n_seq ?_
              refine w_rets ?_
              refine w_ret (rs1 (rr_t gt8)) ?_
              refine rt (by first | rfl | (simp only [AV.lt, AV.ltL, Ent.lt, List.all_cons, List.all_nil, Bool.and_true, Bool.and_self, decide_true, chg_lt, int_lt]; done) | (simp [AV.lt, AV.ltL, Ent.lt, chg_lt, int_lt, *]; done) | (simp [AV.lt, AV.ltL, Ent.lt, chg_lt, int_lt, *]; omega)) ?_
              rfl
  · skip
    refine w_skip ?_
    refine n_seq ?_
    refine w_seq ?_
    refine w_reg ?_
    refine s_val rfl (v_loadpA lk4 (hga hn rfl) LawLocalBack_tk0_4 rfl) pt61 ?_
    refine s_val rfl (v_loadpA lk6 (hga hn rfl) LawLocalBack_tk0_3 rfl) pt62 ?_
    refine s_val rfl (v_mv lk3) pt63 ?_
    refine s_callp (mp1 lk61 (mp1 lk62 (mp1 lk63 mp0))) (when_aL (t := t) (D := (y, m, d)) (s := s) ht hV) pt64 ?_
    refine s_val rfl (v_mv lk64) pt60 ?_
    refine s_val rfl (v_ext lk60 gt0) pt65 ?_
    refine s_val rfl (v_ext lk60 gt1) pt66 ?_
    refine s_val rfl (v_mv lk65) pt16 ?_
    refine s_val rfl (v_mv lk66) pt11 ?_
    refine s_nil ?_
    refine n_seq ?_
    refine w_seq ?_
    refine w_seq ?_
    refine w_reg ?_
    refine s_val rfl (v_mv lk11) pt67 ?_
    refine s_val rfl (v_neq lk67 lki) pt68 ?_
    refine s_nil ?_
    refine n_seq ?_
    first | refine w_cond lk68 (fun hc5 => ?_) (fun hc5 => ?_) | refine w_condB lk68 (fun hc5 => ?_) (fun hc5 => ?_)
    · skip
      refine w_seq ?_
      refine w_reg ?_
      refine s_val rfl (v_mv lk16) pt69 ?_
      refine s_val rfl (v_lenL lk69) (ptS pt0) ?_
      refine s_val rfl (v_eql (lkS lk0) lki) (ptS pt1) ?_
      refine s_val rfl (v_mv (lkS lk1)) pt8 ?_
      refine s_nil ?_
      refine n_seq ?_
      refine w_rets ?_
      refine r_thn ?_
      refine w_ret (rs1 (rr_t gt8)) ?_
      refine rt (by first | rfl | (simp only [AV.lt, AV.ltL, Ent.lt, List.all_cons, List.all_nil, Bool.and_true, Bool.and_self, decide_true, chg_lt, int_lt]; done) | (simp [AV.lt, AV.ltL, Ent.lt, chg_lt, int_lt, *]; done) | (simp [AV.lt, AV.ltL, Ent.lt, chg_lt, int_lt, *]; omega)) ?_
      exact bvx (decide_eq_true (by rw [hz3 hc5]; rfl))
    · skip
      refine w_skip ?_
      refine n_seq ?_
      refine w_seq ?_
      refine w_seq ?_
      refine w_reg ?_
      refine s_val rfl (v_mv lki) pt17 ?_
      refine s_nil ?_
      refine n_seq ?_
      refine w_block ?_
      refine w_loop (ι := Nat) (fun (k : Nat) => [(17, iv (k : Int)), (8, .any), (18, .any), (19, .any), (20, .any), (72, .any), (73, .any), (74, .any), (75, .any), (76, .any), (77, .any), (78, .any), (79, .any), (80, .any), (81, .any), (82, .any), (83, .any), (84, .any), (85, .any), (86, .any), (87, .any), (88, .any), (89, .any), (90, .any), (91, .any), (92, .any), (93, .any), (94, .any), (95, .any), (96, .any), (97, .any), (98, .any), (99, .any), (100, .any), (101, .any), (102, .any), (103, .any), (104, .any), (105, .any), (106, .any), (107, .any), (108, .any), (109, .any), (110, .any), (111, .any), (112, .any), (113, .any), (114, .any), (115, .any)]) (fun (k : Nat) => []) (fun (k : Nat) => k ≤ V.length) (fun (k : Nat) => V.length - k) (0) (by omega) (by try simp only [setsT, setsE, List.set_cons_zero, List.set_cons_succ]; exact ALe.same (wk1 rfl (wk1 rfl (wk1 rfl (wk1 rfl (wk1 rfl (wk1 rfl (wk1 rfl (wk1 rfl (wka (wk1 rfl (wk1 rfl (wk1 rfl (wk1 rfl (wk1 rfl (wk1 rfl (wk1 rfl (wk1 rfl (wk1 (by first | rfl | exact ivx (by omega) | (simp; done)) (wka (wka (wka (wk1 rfl (wk1 rfl (wk1 rfl (wk1 rfl (wk1 rfl (wk1 rfl (wk1 rfl (wk1 rfl (wk1 rfl (wk1 rfl (wk1 rfl (wk1 rfl (wk1 rfl (wk1 rfl (wk1 rfl (wk1 rfl (wk1 rfl (wk1 rfl (wk1 rfl (wk1 rfl (wk1 rfl (wk1 rfl (wk1 rfl (wk1 rfl (wk1 rfl (wk1 rfl (wk1 rfl (wk1 rfl (wk1 rfl (wk1 rfl (wk1 rfl (wk1 rfl (wk1 rfl (wk1 rfl (wk1 rfl (wk1 rfl (wk1 rfl (wk1 rfl (wk1 rfl (wk1 rfl (wk1 rfl (wk1 rfl (wk1 rfl (wk1 rfl (wk1 rfl (wk1 rfl (wk1 rfl (wk1 rfl (wk1 rfl (wk1 rfl (wk1 rfl (wka (wka (wka (wka (wka (wka (wka (wka (wka (wka (wka (wka (wka (wka (wka (wka (wka (wka (wka (wka (wka (wka (wka (wka (wka (wka (wka (wka (wka (wka (wka (wka (wka (wka (wka (wka (wka (wka (wka (wka (wka (wka (wka (wka wk0)))))))))))))))))))))))))))))))))))))))))))))))))))))))))))))))))))))))))))))))))))))))))))))))))))))))))))))))))))) rfl) ?_
      rintro k hi2
      try simp only [setsT, setsE, List.set_cons_zero, List.set_cons_succ]
      have hk1 := hi2
      refine w_seq ?_
      refine w_seq ?_
      refine w_reg ?_
      refine s_val rfl (v_mv lk17) (ptS pt2) ?_
      refine s_val rfl (v_mv lk16) (ptS pt3) ?_
      refine s_val rfl (v_lenL (lkS lk3)) (ptS pt4) ?_
      refine s_val rfl (v_lss (lkS lk2) (lkS lk4)) (ptS pt5) ?_
      refine s_nil ?_
      refine n_seq ?_
      first | refine w_cond (lkS lk5) (fun hc6 => ?_) (fun hc6 => ?_) | refine w_condB (lkS lk5) (fun hc6 => ?_) (fun hc6 => ?_)
      · skip
        have hk2 : k < V.length := by simpa using hc6
        obtain ⟨hw1, hw2, hw3⟩ := hz5 (Decidable.of_not_not hc5) k hk2
        refine w_skip ?_
        refine n_seq ?_
        refine w_seq ?_
        refine w_block ?_
        refine w_seq ?_
        refine w_drwE ?_
        refine d_val rfl (v_loadpA lk4 (hga hn rfl) LawLocalBack_tk0_4 rfl) (ptS pt9) ?_
        refine d_val rfl (v_mv lk16) (ptS pt10) ?_
        refine d_val rfl (v_mv lk17) (ptS pt11) ?_
        refine d_val rfl (v_iaR (k := k) (lkS lk10) (lkS lk11) int_len1 (Nat.le_of_ble_eq_true rfl) (by first | rfl | omega) (by omega) (by first | rfl | omega) rfl) (ptS pt12) ?_
        refine d_val rfl (v_loadr (lkS lk12) gt0) (ptS pt13) ?_
        refine d_callp (mp1 (lkS lk9) (mp1 (lkS lk13) mp0)) (fun hE hX => wall_a (t := t) ht) (ptS pt14) ?_
        refine d_val rfl (v_mv (lkS lk14)) (ptS pt8) ?_
        refine d_val rfl (v_ext (lkS lk8) gt0) (ptS pt15) ?_
        refine d_val rfl (v_ext (lkS lk8) gt1) (ptS pt16) ?_
        refine d_val rfl (v_ext (lkS lk8) gt2) (ptS pt17) ?_
        refine d_eff rfl rfl (hlk hn rfl) (l_new) pt18 LawLocalBack_lap0 ?_
        refine d_nil ?_
        refine e_ent LawLocalBack_lj3_1 ?_
        refine s_eff rfl rfl (e_store lk18 (cvl (lkS lk15) rfl) (hga hn rfl) rfl (Nat.le_of_ble_eq_true rfl) rfl LawLocalBack_sc0_3 (hs3 hn)) ptn ?_
        refine s_val rfl (v_mv (lkS lk16)) pt19 ?_
        refine s_val rfl (v_mv (lkS lk17)) pt20 ?_
        refine s_nil ?_
        refine n_seq ?_
        refine w_seq ?_
        refine w_drwE ?_
        refine d_val rfl (v_mv lk20) (ptS pt18) ?_
        refine d_val rfl (v_neq (lkS lk18) lki) (ptS pt19) ?_
        refine d_val rfl (v_mv (lkS lk19)) (ptS pt20) ?_
        refine d_known (gtS gt20) (b := false) (by exact decide_eq_false (fun e => e hw3)) (ptS pt20) ?_
        refine d_do (gtS gt20) ?_
        refine d_val rfl (v_loadpA lk18 (hga hn rfl) LawLocalBack_tk0_3 rfl) (ptS pt21) ?_
        refine d_do (gtS gt20) ?_
        refine d_val rfl (v_loadpA lk6 (hga hn rfl) LawLocalBack_tk0_3 rfl) (ptS pt22) ?_
        refine d_do (gtS gt20) ?_
        refine d_val rfl (v_eqsN (lkS lk21) (lkS lk22) LawLocalBack_eq_iii) (ptS pt23) ?_
        refine d_val rfl (v_pickF (lkS lk20) (lkS lk23)) (ptS pt24) ?_
        refine d_val rfl (v_mv (lkS lk24)) (ptS pt25) ?_
        refine d_known (gtS gt25) (b := false) (by exact decide_eq_false (fun e => e (by rw [hw1]; exact ⟨rfl, rfl, rfl⟩))) (ptS pt25) ?_
        refine d_do (gtS gt25) ?_
        refine d_val rfl (v_mv lk19) (ptS pt26) ?_
        refine d_do (gtS gt25) ?_
        refine d_val rfl (v_mv lk3) (ptS pt27) ?_
        refine d_do (gtS gt25) ?_
        refine d_val rfl (v_neq (lkS lk26) (lkS lk27)) (ptS pt28) ?_
        refine d_val rfl (v_pickF (lkS lk25) (lkS lk28)) (ptS pt29) ?_
        refine d_val rfl (v_mv (lkS lk29)) (ptS pt30) ?_
        refine d_known (gtS gt30) (b := false) (by exact decide_eq_false (fun e => e hw2)) (ptS pt30) ?_
        refine d_do (gtS gt30) ?_
        refine d_val rfl (v_mv lk17) (ptS pt31) ?_
        refine d_do (gtS gt30) ?_
        refine d_val rfl (v_gtr (lkS lk31) lki) (ptS pt32) ?_
        refine d_do (gtS gt30) ?_
        refine d_val rfl (v_mv (lkS lk32)) (ptS pt33) ?_
        first | refine d_splitP (gtS gt33) (ptS pt33) (ptS pt33) (fun hg103 => ?_) (fun hg103 => ?_) | refine d_splitB (gtS gt33) (ptS pt33) (ptS pt33) (fun hg103 => ?_) (fun hg103 => ?_)
        · skip
          refine d_do (gtS gt33) ?_
          refine d_val rfl (v_mv lk16) (ptS pt34) ?_
          refine d_do (gtS gt33) ?_
          refine d_val rfl (v_mv lk17) (ptS pt35) ?_
          refine d_do (gtS gt33) ?_
          refine d_val rfl (v_iaR (k := k) (lkS lk34) (lkS lk35) int_len1 (Nat.le_of_ble_eq_true rfl) (by first | rfl | omega) (by omega) (by first | rfl | omega) rfl) (ptS pt36) ?_
          refine d_do (gtS gt33) ?_
          refine d_val rfl (v_loadr (lkS lk36) gt0) (ptS pt37) ?_
          refine d_do (gtS gt33) ?_
          refine d_val rfl (v_mv lk16) (ptS pt38) ?_
          refine d_do (gtS gt33) ?_
          refine d_val rfl (v_mv lk17) (ptS pt39) ?_
          refine d_do (gtS gt33) ?_
          refine d_val rfl (v_sub (lkS lk39) lki (by omega) (by omega)) (ptS pt40) ?_
          refine d_do (gtS gt33) ?_
          refine d_val rfl (v_iaR (k := k - 1) (lkS lk38) (lkS lk40) int_len1 (Nat.le_of_ble_eq_true rfl) (by first | rfl | omega) (by omega) (by first | rfl | omega) rfl) (ptS pt41) ?_
          refine d_do (gtS gt33) ?_
          refine d_val rfl (v_loadr (lkS lk41) gt0) (ptS pt42) ?_
          refine d_do (gtS gt33) ?_
          refine d_val rfl (v_leq (lkS lk37) (lkS lk42)) (ptS pt43) ?_
          refine d_do (gtS gt30) ?_
          refine d_val rfl (v_pickT (lkS lk33) (lkS lk43)) (ptS pt44) ?_
          refine d_val rfl (v_pickF (lkS lk30) (lkS lk44)) (ptS pt45) ?_
          refine d_nil ?_
          refine e_nil ?_
          refine s_nil ?_
          refine n_seq ?_
          first | refine w_cond (lkS lk45) (fun hc7 => ?_) (fun hc7 => ?_) | refine w_condB (lkS lk45) (fun hc7 => ?_) (fun hc7 => ?_)
          · skip
            refine w_seq ?_
            refine w_reg ?_
            refine s_val rfl (v_mv lkb) pt8 ?_
            refine s_nil ?_
            refine n_seq ?_
            refine w_rets ?_
            refine r_blk ?_
            refine r_thn ?_
            refine r_thn ?_
            refine r_blk ?_
            refine r_thn ?_
            refine w_ret (rs1 (rr_t gt8)) ?_
            refine rt (by first | rfl | (simp only [AV.lt, AV.ltL, Ent.lt, List.all_cons, List.all_nil, Bool.and_true, Bool.and_self, decide_true, chg_lt, int_lt]; done) | (simp [AV.lt, AV.ltL, Ent.lt, chg_lt, int_lt, *]; done) | (simp [AV.lt, AV.ltL, Ent.lt, chg_lt, int_lt, *]; omega)) ?_
            exact absurd (List.pairwise_iff_getElem.1 hz4 (k - 1) k (by omega) hk2 (by omega)) (by omega)
          · skip
            refine w_skip ?_
            refine n_blk ?_
            refine n_seq ?_
            refine w_reg ?_
            refine s_val rfl (v_mv lk17) (ptS pt6) ?_
            refine s_val rfl (v_add (lkS lk6) lki (by omega) (by omega)) (ptS pt7) ?_
            refine s_val rfl (v_mv (lkS lk7)) pt17 ?_
            refine s_nil ?_
            refine n_thn ?_
            refine LoopTo.mk (k + 1) (by omega) (by (try dsimp only); omega) (by (try dsimp only); (try simp only [setsT, setsE, List.set_cons_zero, List.set_cons_succ]); exact ALe.back (wk1 rfl (wk1 rfl (wk1 rfl (wk1 rfl (wk1 rfl (wk1 rfl (wk1 rfl (wk1 rfl (wka (wk1 rfl (wk1 rfl (wk1 rfl (wk1 rfl (wk1 rfl (wk1 rfl (wk1 rfl (wk1 rfl (wk1 (by first | rfl | exact ivx (by omega) | (simp; done)) (wka (wka (wka (wk1 rfl (wk1 rfl (wk1 rfl (wk1 rfl (wk1 rfl (wk1 rfl (wk1 rfl (wk1 rfl (wk1 rfl (wk1 rfl (wk1 rfl (wk1 rfl (wk1 rfl (wk1 rfl (wk1 rfl (wk1 rfl (wk1 rfl (wk1 rfl (wk1 rfl (wk1 rfl (wk1 rfl (wk1 rfl (wk1 rfl (wk1 rfl (wk1 rfl (wk1 rfl (wk1 rfl (wk1 rfl (wk1 rfl (wk1 rfl (wk1 rfl (wk1 rfl (wk1 rfl (wk1 rfl (wk1 rfl (wk1 rfl (wk1 rfl (wk1 rfl (wk1 rfl (wk1 rfl (wk1 rfl (wk1 rfl (wk1 rfl (wk1 rfl (wk1 rfl (wk1 rfl (wk1 rfl (wk1 rfl (wk1 rfl (wk1 rfl (wk1 rfl (wka (wka (wka (wka (wka (wka (wka (wka (wka (wka (wka (wka (wka (wka (wka (wka (wka (wka (wka (wka (wka (wka (wka (wka (wka (wka (wka (wka (wka (wka (wka (wka (wka (wka (wka (wka (wka (wka (wka (wka (wka (wka (wka (wka wk0)))))))))))))))))))))))))))))))))))))))))))))))))))))))))))))))))))))))))))))))))))))))))))))))))))))))))))))))))))) (by rfl) (k := N + 3) (by simp only [List.length_cons, List.length_nil, hn]) (by omega) (by first | rfl | (simp only [AV.lt, AV.ltL, Ent.lt, List.all_cons, List.all_nil, Bool.and_true, Bool.and_self, decide_true, chg_lt, int_lt]; done) | (simp [AV.lt, AV.ltL, Ent.lt, chg_lt, int_lt, *]; done) | (simp [AV.lt, AV.ltL, Ent.lt, chg_lt, int_lt, *]; omega)) (ltw (by omega) hlt) (by first | rfl | (simp only [AV.lt, AV.ltL, Ent.lt, List.all_cons, List.all_nil, Bool.and_true, Bool.and_self, decide_true, chg_lt, int_lt]; done) | (simp [AV.lt, AV.ltL, Ent.lt, chg_lt, int_lt, *]; done) | (simp [AV.lt, AV.ltL, Ent.lt, chg_lt, int_lt, *]; omega)))
        · skip
          refine d_no (gtS gt33) (ptS pt34) ?_
          refine d_no (gtS gt33) (ptS pt35) ?_
          refine d_no (gtS gt33) (ptS pt36) ?_
          refine d_no (gtS gt33) (ptS pt37) ?_
          refine d_no (gtS gt33) (ptS pt38) ?_
          refine d_no (gtS gt33) (ptS pt39) ?_
          refine d_no (gtS gt33) (ptS pt40) ?_
          refine d_no (gtS gt33) (ptS pt41) ?_
          refine d_no (gtS gt33) (ptS pt42) ?_
          refine d_no (gtS gt33) (ptS pt43) ?_
          refine d_do (gtS gt30) ?_
          refine d_val rfl (v_pickF (lkS lk33) lkb) (ptS pt44) ?_
          refine d_val rfl (v_pickF (lkS lk30) (lkS lk44)) (ptS pt45) ?_
          refine d_nil ?_
          refine e_nil ?_
          refine s_nil ?_
          refine n_seq ?_
          refine w_condF (lkS lk45) ?_
          refine w_skip ?_
          refine n_blk ?_
          refine n_seq ?_
          refine w_reg ?_
          refine s_val rfl (v_mv lk17) (ptS pt6) ?_
          refine s_val rfl (v_add (lkS lk6) lki (by omega) (by omega)) (ptS pt7) ?_
          refine s_val rfl (v_mv (lkS lk7)) pt17 ?_
          refine s_nil ?_
          refine n_thn ?_
          refine LoopTo.mk (k + 1) (by omega) (by (try dsimp only); omega) (by (try dsimp only); (try simp only [setsT, setsE, List.set_cons_zero, List.set_cons_succ]); exact ALe.back (wk1 rfl (wk1 rfl (wk1 rfl (wk1 rfl (wk1 rfl (wk1 rfl (wk1 rfl (wk1 rfl (wka (wk1 rfl (wk1 rfl (wk1 rfl (wk1 rfl (wk1 rfl (wk1 rfl (wk1 rfl (wk1 rfl (wk1 (by first | rfl | exact ivx (by omega) | (simp; done)) (wka (wka (wka (wk1 rfl (wk1 rfl (wk1 rfl (wk1 rfl (wk1 rfl (wk1 rfl (wk1 rfl (wk1 rfl (wk1 rfl (wk1 rfl (wk1 rfl (wk1 rfl (wk1 rfl (wk1 rfl (wk1 rfl (wk1 rfl (wk1 rfl (wk1 rfl (wk1 rfl (wk1 rfl (wk1 rfl (wk1 rfl (wk1 rfl (wk1 rfl (wk1 rfl (wk1 rfl (wk1 rfl (wk1 rfl (wk1 rfl (wk1 rfl (wk1 rfl (wk1 rfl (wk1 rfl (wk1 rfl (wk1 rfl (wk1 rfl (wk1 rfl (wk1 rfl (wk1 rfl (wk1 rfl (wk1 rfl (wk1 rfl (wk1 rfl (wk1 rfl (wk1 rfl (wk1 rfl (wk1 rfl (wk1 rfl (wk1 rfl (wk1 rfl (wk1 rfl (wka (wka (wka (wka (wka (wka (wka (wka (wka (wka (wka (wka (wka (wka (wka (wka (wka (wka (wka (wka (wka (wka (wka (wka (wka (wka (wka (wka (wka (wka (wka (wka (wka (wka (wka (wka (wka (wka (wka (wka (wka (wka (wka (wka wk0)))))))))))))))))))))))))))))))))))))))))))))))))))))))))))))))))))))))))))))))))))))))))))))))))))))))))))))))))))) (by rfl) (k := N + 3) (by simp only [List.length_cons, List.length_nil, hn]) (by omega) (by first | rfl | (simp only [AV.lt, AV.ltL, Ent.lt, List.all_cons, List.all_nil, Bool.and_true, Bool.and_self, decide_true, chg_lt, int_lt]; done) | (simp [AV.lt, AV.ltL, Ent.lt, chg_lt, int_lt, *]; done) | (simp [AV.lt, AV.ltL, Ent.lt, chg_lt, int_lt, *]; omega)) (ltw (by omega) hlt) (by first | rfl | (simp only [AV.lt, AV.ltL, Ent.lt, List.all_cons, List.all_nil, Bool.and_true, Bool.and_self, decide_true, chg_lt, int_lt]; done) | (simp [AV.lt, AV.ltL, Ent.lt, chg_lt, int_lt, *]; done) | (simp [AV.lt, AV.ltL, Ent.lt, chg_lt, int_lt, *]; omega)))
      · skip
        refine w_exit ?_
        refine x_thn ?_
        refine x_thn ?_
        refine x_blk ?_
        refine n_seq ?_
        refine w_seq ?_
        refine w_reg ?_
        refine s_val rfl (v_mv lkb) pt8 ?_
        refine s_nil ?_
        refine n_seq ?_
        refine w_rets ?_
        refine w_ret (rs1 (rr_t gt8)) ?_
        refine rt (by first | rfl | (simp only [AV.lt, AV.ltL, Ent.lt, List.all_cons, List.all_nil, Bool.and_true, Bool.and_self, decide_true, chg_lt, int_lt]; done) | (simp [AV.lt, AV.ltL, Ent.lt, chg_lt, int_lt, *]; done) | (simp [AV.lt, AV.ltL, Ent.lt, chg_lt, int_lt, *]; omega)) ?_
        rfl
set_option maxRecDepth 100000 in
theorem lifted (os : Os) (started : os.Started) (H : Type) (enc : TypeId × Value → H) :
    ReturnsInHanded {} Try.checked os 10 .any (Rows.localBackSpec.pre6 enc Try.prog Try.f10 Rows.localBackRow.domain false) (Rows.localBackSpec.post enc Try.prog Try.f10 false true false false) := by
  refine returnsInHanded_of_change (C := Try.checked) own started (by kernel_rfl) Try.func10
    (ChangeSpec.witness6 (enc := enc) (C := Try.checked) false ⟨#[], #[.agg #[.int .i64 0, .int .i64 0, .string ⟨#[]⟩, .slice none 0 0], .int .i64 0, .agg #[.int .i64 0, .int .i64 0, .int .i64 0], .int .i64 0], []⟩ 8 (by kernel_rfl) (by kernel_rfl) (by kernel_rfl) (by kernel_rfl)) ?_
  intro W base args ds gs before hval0 hW0 _ _
  have hval : ∀ (j : Nat) t v, Try.f10.params[j]? = some t → args[j]? = some v → Value.okWide Try.prog W .any base t v := hval0
  have hW := hW0
  obtain ⟨p, q, hA0, _, _, _, _⟩ := hW
  have hA : DataW.TrodAll enc Try.prog W 0 (fun _ => true) true Try.f10.params.toList args.toList ds p := hA0
  have hfin : ∀ W', Below W.heap.size W W' → (∃ d, ds = d) → Rows.localBackSpec.fn H ds = { results := [.lit (.bool true)], args := ds } → Rows.localBackSpec.post enc Try.prog Try.f10 false true false false W args (.bool true) W' :=
    fun W' hb _ hs => law_post laidOut (by kernel_rfl) rfl Try.underlying4 rfl hs hW0 hb
  rw [Try.params10] at hA hval
  obtain ⟨v0, vs0, d0, ds0, p0, q0, hargs, rfl, rfl, h0, r0⟩ := trodAll_cons hA
  obtain ⟨v1, vs1, d1, ds1, p1, q1, rfl, rfl, rfl, h1, r1⟩ := trodAll_cons r0
  obtain ⟨v2, vs2, d2, ds2, p2, q2, rfl, rfl, rfl, h2, r2⟩ := trodAll_cons r1
  obtain ⟨v3, vs3, d3, ds3, p3, q3, rfl, rfl, rfl, h3, r3⟩ := trodAll_cons r2
  obtain ⟨rfl, rfl, rfl⟩ := trodAll_nil r3
  obtain rfl : args = #[v0, v1, v2, v3] := by cases args; simp_all
  obtain ⟨t, ht, k0⟩ := arg_struct TabD Try.underlying26 (by kernel_rfl) (hval 0 26 _ rfl rfl) h0
  obtain ⟨n, hn, k1⟩ := arg_int Try.underlying3 (hval 1 3 _ rfl rfl) h1
  obtain ⟨d, hd, k2⟩ := arg_struct DateD Try.underlying52 (by kernel_rfl) (hval 2 52 _ rfl rfl) h2
  obtain ⟨s, hs, k3⟩ := arg_int Try.underlying3 (hval 3 3 _ rfl rfl) h3
  refine (law_calls (walk (h := []) (okT_of ht)) (repL1 k0 (repL1 k1 (repL1 k2 (repL1 k3 repL0))))).mono fun e W' ⟨he, hb⟩ => ?_
  subst he
  exact ⟨_, rfl, hfin W' hb ⟨_, rfl⟩ rfl⟩

theorem proved : Rows.LocalBackSaid :=
  OpenClaim.holds_of_wide 10 Try.f10 rfl rfl rfl rfl rfl rfl rfl ⟨rfl, rfl, rfl, rfl, rfl⟩ rfl rfl rfl rfl rfl (by kernel_rfl) Try.func10 (by kernel_rfl)
    (of_decide_eq_true (by kernel_rfl)) (by unfold Func.isWrapper; first | (rw [if_pos (by decide +kernel)]; kernel_rfl) | (rw [if_neg (by decide +kernel)]; exact ⟨rfl, rfl⟩))
    (fun os started H enc _ => lifted os started H enc)

end Go.Proofs.Ytmbebimingkfeaa.localBack
