/-
  LocalTells answers true, whatever table, time, date and second it is handed, and leaves them as they were. No condition.
-/
import Derived.Test.YtmbebimingkfeaaLBegun
set_option linter.unusedVariables false
set_option linter.unusedSimpArgs false
set_option maxRecDepth 100000
namespace Go.Proofs.Ytmbebimingkfeaa.localTells
open Go.ChangeShapes Go.WideShapes Go.ChangeAt Go.RowKit Go.Ab Civ
section
theorem LawLocalTells_tk0_4 {a0 a1 a2 a3 : AV} {l : List AV} : ((a0 :: a1 :: a2 :: a3 :: l).drop 0).take 4 = [a0, a1, a2, a3] := rfl
theorem LawLocalTells_sc0_3 {a0 a1 a2 c0 c1 c2 : AV} {l : List AV} : setCells (a0 :: a1 :: a2 :: l) 0 [c0, c1, c2] = c0 :: c1 :: c2 :: l := rfl
theorem LawLocalTells_tk0_3 {a0 a1 a2 : AV} {l : List AV} : ((a0 :: a1 :: a2 :: l).drop 0).take 3 = [a0, a1, a2] := rfl
theorem LawLocalTells_eq_iii {a0 b0 : Int} {a1 b1 : Int} {a2 b2 : Int} : eqCells [.int, .int, .int] [iv a0, iv a1, iv a2] [iv b0, iv b1, iv b2] = some (decide (a0 = b0 ∧ a1 = b1 ∧ a2 = b2)) := by
  simp only [eqCells, eqLeaf, if_true, bytes_beq, Option.some.injEq]
  simp only [Bool.decide_and, Bool.and_true]
  try (congr 1 <;> simp)
  try rfl
end
/-- datelinelaw.LocalTells -/
def c9 : AC := (.seq (.reg [⟨(some 4), none, (.box 26 4 (.tmp 0))⟩, ⟨(some 6), none, (.box 52 3 (.tmp 2))⟩, ⟨(some 8), none, (.mv (.const (.bool false)))⟩]) (.seq (.reg [⟨(some 20), none, (.load true 4 (.tmp 4))⟩, ⟨(some 21), none, (.mv (.tmp 1))⟩, ⟨(some 22), none, (.call (.func 25) [(.tmp 20), (.tmp 21)])⟩, ⟨(some 19), none, (.mv (.tmp 22))⟩, ⟨(some 23), none, (.ext (.tmp 19) 0)⟩, ⟨(some 24), none, (.ext (.tmp 19) 1)⟩, ⟨(some 25), none, (.ext (.tmp 19) 2)⟩, ⟨(some 9), none, (.new 52 3 [(.v (.int .i64 0)), (.v (.int .i64 0)), (.v (.int .i64 0))])⟩, ⟨none, none, (.store 3 (.tmp 9) (.tmp 23))⟩, ⟨(some 10), none, (.mv (.tmp 24))⟩, ⟨(some 11), none, (.mv (.tmp 25))⟩]) (.seq (.reg [⟨(some 27), none, (.load true 4 (.tmp 4))⟩, ⟨(some 28), none, (.load true 3 (.tmp 6))⟩, ⟨(some 29), none, (.mv (.tmp 3))⟩, ⟨(some 30), none, (.call (.func 26) [(.tmp 27), (.tmp 28), (.tmp 29)])⟩, ⟨(some 26), none, (.mv (.tmp 30))⟩, ⟨(some 31), none, (.ext (.tmp 26) 0)⟩, ⟨(some 32), none, (.ext (.tmp 26) 1)⟩, ⟨(some 12), none, (.mv (.tmp 31))⟩, ⟨(some 13), none, (.mv (.tmp 32))⟩]) (.seq (.reg [⟨(some 33), none, (.load true 4 (.tmp 4))⟩, ⟨(some 34), none, (.call (.func 14) [(.tmp 33)])⟩, ⟨(some 14), none, (.mv (.tmp 34))⟩]) (.seq (.reg [⟨(some 35), none, (.mv (.tmp 14))⟩, ⟨(some 15), none, (.mv (.tmp 35))⟩]) (.seq (.seq (.reg [⟨(some 36), none, (.mv (.tmp 14))⟩, ⟨(some 37), none, (.bin .eql (.tmp 36) (.const (.int .i64 0)))⟩, ⟨(some 38), none, (.mv (.tmp 37))⟩, ⟨(some 39), (some (38, true)), (.mv (.tmp 1))⟩, ⟨(some 40), (some (38, true)), (.call (.func 27) [])⟩, ⟨(some 41), (some (38, true)), (.bin .lss (.tmp 39) (.tmp 40))⟩, ⟨(some 42), (some (38, true)), (.mv (.tmp 41))⟩, ⟨(some 43), (some (42, false)), (.mv (.tmp 1))⟩, ⟨(some 44), (some (42, false)), (.call (.func 28) [])⟩, ⟨(some 45), (some (42, false)), (.bin .gtr (.tmp 43) (.tmp 44))⟩, ⟨(some 46), (some (38, true)), (.pick (.tmp 42) (.const (.bool true)) (.tmp 45))⟩, ⟨(some 47), none, (.pick (.tmp 38) (.tmp 46) (.const (.bool false)))⟩]) (.cond (.tmp 47) (.reg [⟨(some 14), none, (.mv (.const (.int .i64 3)))⟩]) .skip)) (.seq (.seq (.reg [⟨(some 48), none, (.mv (.tmp 15))⟩, ⟨(some 49), none, (.bin .eql (.tmp 48) (.const (.int .i64 0)))⟩, ⟨(some 50), none, (.mv (.tmp 49))⟩, ⟨(some 51), (some (50, true)), (.load true 3 (.tmp 6))⟩, ⟨(some 52), (some (50, true)), (.call (.func 29) [(.tmp 51)])⟩, ⟨(some 53), (some (50, true)), (.un .not (.tmp 52))⟩, ⟨(some 54), (some (50, true)), (.mv (.tmp 53))⟩, ⟨(some 55), (some (54, false)), (.mv (.tmp 3))⟩, ⟨(some 56), (some (54, false)), (.bin .lss (.tmp 55) (.const (.int .i64 0)))⟩, ⟨(some 57), (some (50, true)), (.pick (.tmp 54) (.const (.bool true)) (.tmp 56))⟩, ⟨(some 58), (some (50, true)), (.mv (.tmp 57))⟩, ⟨(some 59), (some (58, false)), (.mv (.tmp 3))⟩, ⟨(some 60), (some (58, false)), (.bin .geq (.tmp 59) (.const (.int .i64 86400)))⟩, ⟨(some 61), (some (50, true)), (.pick (.tmp 58) (.const (.bool true)) (.tmp 60))⟩, ⟨(some 62), none, (.pick (.tmp 50) (.tmp 61) (.const (.bool false)))⟩]) (.cond (.tmp 62) (.reg [⟨(some 15), none, (.mv (.const (.int .i64 3)))⟩]) .skip)) (.seq (.reg [⟨(some 16), none, (.new 52 3 [(.v (.int .i64 0)), (.v (.int .i64 0)), (.v (.int .i64 0))])⟩]) (.seq (.reg [⟨(some 17), none, (.mv (.const (.int .i64 0)))⟩]) (.seq (.reg [⟨(some 18), none, (.mv (.const (.slice none 0 0)))⟩]) (.seq (.seq (.reg [⟨(some 63), none, (.mv (.tmp 14))⟩, ⟨(some 64), none, (.bin .eql (.tmp 63) (.const (.int .i64 0)))⟩]) (.cond (.tmp 64) (.reg [⟨(some 66), none, (.load true 4 (.tmp 4))⟩, ⟨(some 67), none, (.mv (.tmp 1))⟩, ⟨(some 68), none, (.call (.func 30) [(.tmp 66), (.tmp 67)])⟩, ⟨(some 65), none, (.mv (.tmp 68))⟩, ⟨(some 69), none, (.ext (.tmp 65) 0)⟩, ⟨(some 70), none, (.ext (.tmp 65) 1)⟩, ⟨(some 71), none, (.ext (.tmp 65) 2)⟩, ⟨none, none, (.store 3 (.tmp 16) (.tmp 69))⟩, ⟨(some 17), none, (.mv (.tmp 70))⟩, ⟨(some 14), none, (.mv (.tmp 71))⟩]) .skip)) (.seq (.seq (.reg [⟨(some 72), none, (.mv (.tmp 15))⟩, ⟨(some 73), none, (.bin .eql (.tmp 72) (.const (.int .i64 0)))⟩]) (.cond (.tmp 73) (.reg [⟨(some 74), none, (.load true 4 (.tmp 4))⟩, ⟨(some 75), none, (.load true 3 (.tmp 6))⟩, ⟨(some 76), none, (.mv (.tmp 3))⟩, ⟨(some 77), none, (.call (.func 31) [(.tmp 74), (.tmp 75), (.tmp 76)])⟩, ⟨(some 18), none, (.mv (.tmp 77))⟩]) .skip)) (.seq (.reg [⟨(some 78), none, (.call (.func 32) [])⟩, ⟨(some 79), none, (.mv (.tmp 78))⟩, ⟨(some 80), (some (79, true)), (.mv (.tmp 11))⟩, ⟨(some 81), (some (79, true)), (.mv (.tmp 14))⟩, ⟨(some 82), (some (79, true)), (.bin .eql (.tmp 80) (.tmp 81))⟩, ⟨(some 83), none, (.pick (.tmp 79) (.tmp 82) (.const (.bool false)))⟩, ⟨(some 84), none, (.mv (.tmp 83))⟩, ⟨(some 85), (some (84, true)), (.load true 3 (.tmp 9))⟩, ⟨(some 86), (some (84, true)), (.load true 3 (.tmp 16))⟩, ⟨(some 87), (some (84, true)), (.eqs false [.int, .int, .int] (.tmp 85) (.tmp 86))⟩, ⟨(some 88), none, (.pick (.tmp 84) (.tmp 87) (.const (.bool false)))⟩, ⟨(some 89), none, (.mv (.tmp 88))⟩, ⟨(some 90), (some (89, true)), (.mv (.tmp 10))⟩, ⟨(some 91), (some (89, true)), (.mv (.tmp 17))⟩, ⟨(some 92), (some (89, true)), (.bin .eql (.tmp 90) (.tmp 91))⟩, ⟨(some 93), none, (.pick (.tmp 89) (.tmp 92) (.const (.bool false)))⟩, ⟨(some 94), none, (.mv (.tmp 93))⟩, ⟨(some 95), (some (94, true)), (.mv (.tmp 13))⟩, ⟨(some 96), (some (94, true)), (.mv (.tmp 15))⟩, ⟨(some 97), (some (94, true)), (.bin .eql (.tmp 95) (.tmp 96))⟩, ⟨(some 98), none, (.pick (.tmp 94) (.tmp 97) (.const (.bool false)))⟩, ⟨(some 99), none, (.mv (.tmp 98))⟩, ⟨(some 100), (some (99, true)), (.mv (.tmp 12))⟩, ⟨(some 101), (some (99, true)), (.mv (.tmp 18))⟩, ⟨(some 102), (some (99, true)), (.call (.func 33) [(.tmp 100), (.tmp 101)])⟩, ⟨(some 103), none, (.pick (.tmp 99) (.tmp 102) (.const (.bool false)))⟩, ⟨(some 8), none, (.mv (.tmp 103))⟩]) .ret)))))))))))))
theorem k9 : compF Try.prog 9 = some ⟨c9, [(.tmp 8)], 104⟩ := by kernel_rfl
theorem i9 {a0 a1 a2 a3 : AV} {h : AH} {R : AE → Prop} (hw : ∀ n, h.length = n → (∀ e ∈ h, e.lt n = true) → AV.ltL n [a0, a1, a2, a3] = true → AV.bdL [a0, a1, a2, a3] → aw Try.prog n c9 (retA [(.tmp 8)] fun x h' => ∃ z, h' = h ++ z ∧ x.lt n = true ∧ R x) [a0, a1, a2, a3, .any, .any, .any, .any, .any, .any, .any, .any, .any, .any, .any, .any, .any, .any, .any, .any, .any, .any, .any, .any, .any, .any, .any, .any, .any, .any, .any, .any, .any, .any, .any, .any, .any, .any, .any, .any, .any, .any, .any, .any, .any, .any, .any, .any, .any, .any, .any, .any, .any, .any, .any, .any, .any, .any, .any, .any, .any, .any, .any, .any, .any, .any, .any, .any, .any, .any, .any, .any, .any, .any, .any, .any, .any, .any, .any, .any, .any, .any, .any, .any, .any, .any, .any, .any, .any, .any, .any, .any, .any, .any, .any, .any, .any, .any, .any, .any, .any, .any, .any, .any] (h ++ [])) : ACalls Try.prog 9 [a0, a1, a2, a3] h fun x h' => h' = h ∧ R x := ACalls.into k9 rfl hw
theorem w9 {a0 a1 a2 a3 : AV} {h : AH} {res : AV} (hw : ∀ n, h.length = n → (∀ e ∈ h, e.lt n = true) → AV.ltL n [a0, a1, a2, a3] = true → AV.bdL [a0, a1, a2, a3] → aw Try.prog n c9 (retA [(.tmp 8)] fun x h' => ∃ z, h' = h ++ z ∧ x.lt n = true ∧ ∃ c, x = .ret c ∧ Wk c res) [a0, a1, a2, a3, .any, .any, .any, .any, .any, .any, .any, .any, .any, .any, .any, .any, .any, .any, .any, .any, .any, .any, .any, .any, .any, .any, .any, .any, .any, .any, .any, .any, .any, .any, .any, .any, .any, .any, .any, .any, .any, .any, .any, .any, .any, .any, .any, .any, .any, .any, .any, .any, .any, .any, .any, .any, .any, .any, .any, .any, .any, .any, .any, .any, .any, .any, .any, .any, .any, .any, .any, .any, .any, .any, .any, .any, .any, .any, .any, .any, .any, .any, .any, .any, .any, .any, .any, .any, .any, .any, .any, .any, .any, .any, .any, .any, .any, .any, .any, .any, .any, .any, .any, .any] (h ++ [])) : ACalls Try.prog 9 [a0, a1, a2, a3] h fun x h' => h' = h ∧ x = .ret res := ACalls.weak (ACalls.into k9 rfl hw)
theorem n9 {a0 a1 a2 a3 : AV} {h : AH} {R : AE → AH → Prop} (hw : ∀ n, h.length = n → (∀ e ∈ h, e.lt n = true) → AV.ltL n [a0, a1, a2, a3] = true → AV.bdL [a0, a1, a2, a3] → aw Try.prog n c9 (retA [(.tmp 8)] R) [a0, a1, a2, a3, .any, .any, .any, .any, .any, .any, .any, .any, .any, .any, .any, .any, .any, .any, .any, .any, .any, .any, .any, .any, .any, .any, .any, .any, .any, .any, .any, .any, .any, .any, .any, .any, .any, .any, .any, .any, .any, .any, .any, .any, .any, .any, .any, .any, .any, .any, .any, .any, .any, .any, .any, .any, .any, .any, .any, .any, .any, .any, .any, .any, .any, .any, .any, .any, .any, .any, .any, .any, .any, .any, .any, .any, .any, .any, .any, .any, .any, .any, .any, .any, .any, .any, .any, .any, .any, .any, .any, .any, .any, .any, .any, .any, .any, .any, .any, .any, .any, .any, .any, .any] (h ++ [])) : ACalls Try.prog 9 [a0, a1, a2, a3] h R := ACalls.intoN k9 rfl hw
theorem j9 {a0 a1 a2 a3 : AV} {h : AH} {R : AE → AH → Prop} (hw : ∀ n, h.length = n → (∀ e ∈ h, e.lt n = true) → AV.ltL n [a0, a1, a2, a3] = true → AV.bdL [a0, a1, a2, a3] → aw Try.prog n c9 (retA [(.tmp 8)] fun x h' => ∃ y z, h' = y ++ z ∧ y.length = n ∧ (∀ e ∈ y, e.lt n = true) ∧ x.lt n = true ∧ R x y) [a0, a1, a2, a3, .any, .any, .any, .any, .any, .any, .any, .any, .any, .any, .any, .any, .any, .any, .any, .any, .any, .any, .any, .any, .any, .any, .any, .any, .any, .any, .any, .any, .any, .any, .any, .any, .any, .any, .any, .any, .any, .any, .any, .any, .any, .any, .any, .any, .any, .any, .any, .any, .any, .any, .any, .any, .any, .any, .any, .any, .any, .any, .any, .any, .any, .any, .any, .any, .any, .any, .any, .any, .any, .any, .any, .any, .any, .any, .any, .any, .any, .any, .any, .any, .any, .any, .any, .any, .any, .any, .any, .any, .any, .any, .any, .any, .any, .any, .any, .any, .any, .any, .any, .any] (h ++ [])) : ACalls Try.prog 9 [a0, a1, a2, a3] h R := ACalls.intoG k9 rfl hw
abbrev DateD : Ds := .pair .int (.pair .int .int)
theorem walk {t : Tab} {n y m d s : Int} (ht : okT t) : ACalls Try.prog 9 [tabA t, iv n, .agg [iv y, iv m, iv d], iv s] [] fun x h' => h' = [] ∧ x = .ret (bv true) := by
  refine i9 ?_
  intro N hn hlt hlA hbd
  try simp only [AV.bdL, AV.bd, and_true, true_and] at hbd
  refine w_seq ?_
  refine w_reg ?_
  refine s_eff rfl rfl (e_box (cvl lk0 rfl) rfl (hl0 hn) ha0) pt4 ?_
  refine s_eff rfl rfl (e_box (cvl lk2 rfl) rfl (hl1 hn) ha1) pt6 ?_
  refine s_val rfl (v_mv lkb) pt8 ?_
  refine s_nil ?_
  refine n_seq ?_
  refine w_seq ?_
  refine w_reg ?_
  refine s_val rfl (v_loadpA lk4 (hga hn rfl) LawLocalTells_tk0_4 rfl) pt20 ?_
  refine s_val rfl (v_mv lk1) pt21 ?_
  refine s_callp (mp1 lk20 (mp1 lk21 mp0)) (wall_a (t := t) ht) pt22 ?_
  refine s_val rfl (v_mv lk22) pt19 ?_
  refine s_val rfl (v_ext lk19 gt0) pt23 ?_
  refine s_val rfl (v_ext lk19 gt1) pt24 ?_
  refine s_val rfl (v_ext lk19 gt2) pt25 ?_
  refine s_eff rfl rfl (e_new (hl2 hn) ha2) pt9 ?_
  refine s_eff rfl rfl (e_store lk9 (cvl lk23 rfl) (hga hn rfl) rfl (Nat.le_of_ble_eq_true rfl) rfl LawLocalTells_sc0_3 (hs2 hn)) ptn ?_
  refine s_val rfl (v_mv lk24) pt10 ?_
  refine s_val rfl (v_mv lk25) pt11 ?_
  refine s_nil ?_
  refine n_seq ?_
  refine w_seq ?_
  refine w_reg ?_
  refine s_val rfl (v_loadpA lk4 (hga hn rfl) LawLocalTells_tk0_4 rfl) pt27 ?_
  refine s_val rfl (v_loadpA lk6 (hga hn rfl) LawLocalTells_tk0_3 rfl) pt28 ?_
  refine s_val rfl (v_mv lk3) pt29 ?_
  refine s_callp (mp1 lk27 (mp1 lk28 (mp1 lk29 mp0))) (when_a (t := t) ht) pt30 ?_
  refine s_val rfl (v_mv lk30) pt26 ?_
  refine s_val rfl (v_ext lk26 gt0) pt31 ?_
  refine s_val rfl (v_ext lk26 gt1) pt32 ?_
  refine s_val rfl (v_mv lk31) pt12 ?_
  refine s_val rfl (v_mv lk32) pt13 ?_
  refine s_nil ?_
  refine n_seq ?_
  refine w_seq ?_
  refine w_reg ?_
  refine s_val rfl (v_loadpA lk4 (hga hn rfl) LawLocalTells_tk0_4 rfl) pt33 ?_
  refine s_callp (mp1 lk33 mp0) (rcheck_a (l := t.2) ht.1 ht.2) pt34 ?_
  refine s_val rfl (v_mv lk34) pt14 ?_
  refine s_nil ?_
  refine n_seq ?_
  refine w_seq ?_
  refine w_reg ?_
  refine s_val rfl (v_mv lk14) pt35 ?_
  refine s_val rfl (v_mv lk35) pt15 ?_
  refine s_nil ?_
  refine n_seq ?_
  refine w_seqC (ι := Unit) (fun (x : Unit) => [(14, iv (lookE t n)), (36, .any), (37, .any), (38, .any), (39, .any), (40, .any), (41, .any), (42, .any), (43, .any), (44, .any), (45, .any), (46, .any), (47, .any)]) (fun (x : Unit) => []) (fun (x : Unit) => True) ?_ ?_
  · try simp only [setsT, setsE, List.set_cons_zero, List.set_cons_succ]
    refine w_seq ?_
    refine w_reg ?_
    refine s_val rfl (v_mv lk14) pt36 ?_
    refine s_val rfl (v_eql lk36 lki) pt37 ?_
    refine s_val rfl (v_mv lk37) pt38 ?_
    first | refine s_splitP gt38 pt38 pt38 (fun hg38 => ?_) (fun hg38 => ?_) | refine s_splitB gt38 pt38 pt38 (fun hg38 => ?_) (fun hg38 => ?_)
    · skip
      refine s_do gt38 ?_
      refine s_val rfl (v_mv lk1) pt39 ?_
      refine s_do gt38 ?_
      refine s_callp mp0 (rleastAt_a) pt40 ?_
      refine s_do gt38 ?_
      refine s_val rfl (v_lss lk39 lk40) pt41 ?_
      refine s_do gt38 ?_
      refine s_val rfl (v_mv lk41) pt42 ?_
      first | refine s_splitP gt42 pt42 pt42 (fun hg42 => ?_) (fun hg42 => ?_) | refine s_splitB gt42 pt42 pt42 (fun hg42 => ?_) (fun hg42 => ?_)
      · skip
        refine s_no gt42 pt43 ?_
        refine s_no gt42 pt44 ?_
        refine s_no gt42 pt45 ?_
        refine s_do gt38 ?_
        refine s_val rfl (v_pickT lk42 lkb) pt46 ?_
        refine s_val rfl (v_pickT lk38 lk46) pt47 ?_
        refine s_nil ?_
        refine n_seq ?_
        refine w_condT lk47 ?_
        refine w_reg ?_
        refine s_val rfl (v_mv lki) pt14 ?_
        refine s_nil ?_
        refine n_thn ?_
        have hE : (3 : Int) = lookE t n := by rw [lookE, if_neg (fun e => e hg38), if_neg (by rw [timeB_iff]; omega)]
        exact ⟨(), (by trivial), (by (try dsimp only); (try simp only [setsT, setsE, List.set_cons_zero, List.set_cons_succ]); exact ALe.same (wk1 rfl (wk1 rfl (wk1 rfl (wk1 rfl (wk1 rfl (wk1 rfl (wk1 rfl (wk1 rfl (wk1 rfl (wk1 rfl (wk1 rfl (wk1 rfl (wk1 rfl (wk1 rfl (wk1 (by first | rfl | exact ivx hE.symm) (wk1 rfl (wk1 rfl (wk1 rfl (wk1 rfl (wk1 rfl (wk1 rfl (wk1 rfl (wk1 rfl (wk1 rfl (wk1 rfl (wk1 rfl (wk1 rfl (wk1 rfl (wk1 rfl (wk1 rfl (wk1 rfl (wk1 rfl (wk1 rfl (wk1 rfl (wk1 rfl (wk1 rfl (wka (wka (wka (wka (wka (wka (wka (wka (wka (wka (wka (wka (wk1 rfl (wk1 rfl (wk1 rfl (wk1 rfl (wk1 rfl (wk1 rfl (wk1 rfl (wk1 rfl (wk1 rfl (wk1 rfl (wk1 rfl (wk1 rfl (wk1 rfl (wk1 rfl (wk1 rfl (wk1 rfl (wk1 rfl (wk1 rfl (wk1 rfl (wk1 rfl (wk1 rfl (wk1 rfl (wk1 rfl (wk1 rfl (wk1 rfl (wk1 rfl (wk1 rfl (wk1 rfl (wk1 rfl (wk1 rfl (wk1 rfl (wk1 rfl (wk1 rfl (wk1 rfl (wk1 rfl (wk1 rfl (wk1 rfl (wk1 rfl (wk1 rfl (wk1 rfl (wk1 rfl (wk1 rfl (wk1 rfl (wk1 rfl (wk1 rfl (wk1 rfl (wk1 rfl (wk1 rfl (wk1 rfl (wk1 rfl (wk1 rfl (wk1 rfl (wk1 rfl (wk1 rfl (wk1 rfl (wk1 rfl wk0)))))))))))))))))))))))))))))))))))))))))))))))))))))))))))))))))))))))))))))))))))))))))))))))))))))))) rfl)⟩
      · skip
        refine s_do gt42 ?_
        refine s_val rfl (v_mv lk1) pt43 ?_
        refine s_do gt42 ?_
        refine s_callp mp0 (rmostAt_a) pt44 ?_
        refine s_do gt42 ?_
        refine s_val rfl (v_gtr lk43 lk44) pt45 ?_
        refine s_do gt38 ?_
        refine s_val rfl (v_pickF lk42 lk45) pt46 ?_
        refine s_val rfl (v_pickT lk38 lk46) pt47 ?_
        refine s_nil ?_
        refine n_seq ?_
        first | refine w_cond lk47 (fun hc1 => ?_) (fun hc1 => ?_) | refine w_condB lk47 (fun hc1 => ?_) (fun hc1 => ?_)
        · skip
          refine w_reg ?_
          refine s_val rfl (v_mv lki) pt14 ?_
          refine s_nil ?_
          refine n_thn ?_
          have hE : (3 : Int) = lookE t n := by rw [lookE, if_neg (fun e => e hg38), if_neg (by rw [timeB_iff]; omega)]
          exact ⟨(), (by trivial), (by (try dsimp only); (try simp only [setsT, setsE, List.set_cons_zero, List.set_cons_succ]); exact ALe.same (wk1 rfl (wk1 rfl (wk1 rfl (wk1 rfl (wk1 rfl (wk1 rfl (wk1 rfl (wk1 rfl (wk1 rfl (wk1 rfl (wk1 rfl (wk1 rfl (wk1 rfl (wk1 rfl (wk1 (by first | rfl | exact ivx hE.symm) (wk1 rfl (wk1 rfl (wk1 rfl (wk1 rfl (wk1 rfl (wk1 rfl (wk1 rfl (wk1 rfl (wk1 rfl (wk1 rfl (wk1 rfl (wk1 rfl (wk1 rfl (wk1 rfl (wk1 rfl (wk1 rfl (wk1 rfl (wk1 rfl (wk1 rfl (wk1 rfl (wk1 rfl (wka (wka (wka (wka (wka (wka (wka (wka (wka (wka (wka (wka (wk1 rfl (wk1 rfl (wk1 rfl (wk1 rfl (wk1 rfl (wk1 rfl (wk1 rfl (wk1 rfl (wk1 rfl (wk1 rfl (wk1 rfl (wk1 rfl (wk1 rfl (wk1 rfl (wk1 rfl (wk1 rfl (wk1 rfl (wk1 rfl (wk1 rfl (wk1 rfl (wk1 rfl (wk1 rfl (wk1 rfl (wk1 rfl (wk1 rfl (wk1 rfl (wk1 rfl (wk1 rfl (wk1 rfl (wk1 rfl (wk1 rfl (wk1 rfl (wk1 rfl (wk1 rfl (wk1 rfl (wk1 rfl (wk1 rfl (wk1 rfl (wk1 rfl (wk1 rfl (wk1 rfl (wk1 rfl (wk1 rfl (wk1 rfl (wk1 rfl (wk1 rfl (wk1 rfl (wk1 rfl (wk1 rfl (wk1 rfl (wk1 rfl (wk1 rfl (wk1 rfl (wk1 rfl (wk1 rfl (wk1 rfl wk0)))))))))))))))))))))))))))))))))))))))))))))))))))))))))))))))))))))))))))))))))))))))))))))))))))))))) rfl)⟩
        · skip
          refine w_skip ?_
          refine n_thn ?_
          have hE : checkT t = lookE t n := by rw [lookE, if_neg (fun e => e hg38), if_pos (by rw [timeB_iff]; omega)]; exact hg38
          exact ⟨(), (by trivial), (by (try dsimp only); (try simp only [setsT, setsE, List.set_cons_zero, List.set_cons_succ]); exact ALe.same (wk1 rfl (wk1 rfl (wk1 rfl (wk1 rfl (wk1 rfl (wk1 rfl (wk1 rfl (wk1 rfl (wk1 rfl (wk1 rfl (wk1 rfl (wk1 rfl (wk1 rfl (wk1 rfl (wk1 (by first | rfl | exact ivx hE.symm) (wk1 rfl (wk1 rfl (wk1 rfl (wk1 rfl (wk1 rfl (wk1 rfl (wk1 rfl (wk1 rfl (wk1 rfl (wk1 rfl (wk1 rfl (wk1 rfl (wk1 rfl (wk1 rfl (wk1 rfl (wk1 rfl (wk1 rfl (wk1 rfl (wk1 rfl (wk1 rfl (wk1 rfl (wka (wka (wka (wka (wka (wka (wka (wka (wka (wka (wka (wka (wk1 rfl (wk1 rfl (wk1 rfl (wk1 rfl (wk1 rfl (wk1 rfl (wk1 rfl (wk1 rfl (wk1 rfl (wk1 rfl (wk1 rfl (wk1 rfl (wk1 rfl (wk1 rfl (wk1 rfl (wk1 rfl (wk1 rfl (wk1 rfl (wk1 rfl (wk1 rfl (wk1 rfl (wk1 rfl (wk1 rfl (wk1 rfl (wk1 rfl (wk1 rfl (wk1 rfl (wk1 rfl (wk1 rfl (wk1 rfl (wk1 rfl (wk1 rfl (wk1 rfl (wk1 rfl (wk1 rfl (wk1 rfl (wk1 rfl (wk1 rfl (wk1 rfl (wk1 rfl (wk1 rfl (wk1 rfl (wk1 rfl (wk1 rfl (wk1 rfl (wk1 rfl (wk1 rfl (wk1 rfl (wk1 rfl (wk1 rfl (wk1 rfl (wk1 rfl (wk1 rfl (wk1 rfl (wk1 rfl (wk1 rfl wk0)))))))))))))))))))))))))))))))))))))))))))))))))))))))))))))))))))))))))))))))))))))))))))))))))))))))) rfl)⟩
    · skip
      refine s_no gt38 pt39 ?_
      refine s_no gt38 pt40 ?_
      refine s_no gt38 pt41 ?_
      refine s_no gt38 pt42 ?_
      refine s_nu gt42 pt43 ?_
      refine s_nu gt42 pt44 ?_
      refine s_nu gt42 pt45 ?_
      refine s_no gt38 pt46 ?_
      refine s_val rfl (v_pickF lk38 lkb) pt47 ?_
      refine s_nil ?_
      refine n_seq ?_
      refine w_condF lk47 ?_
      refine w_skip ?_
      refine n_thn ?_
      have hE : checkT t = lookE t n := by rw [lookE, if_pos hg38]
      exact ⟨(), (by trivial), (by (try dsimp only); (try simp only [setsT, setsE, List.set_cons_zero, List.set_cons_succ]); exact ALe.same (wk1 rfl (wk1 rfl (wk1 rfl (wk1 rfl (wk1 rfl (wk1 rfl (wk1 rfl (wk1 rfl (wk1 rfl (wk1 rfl (wk1 rfl (wk1 rfl (wk1 rfl (wk1 rfl (wk1 (by first | rfl | exact ivx hE.symm) (wk1 rfl (wk1 rfl (wk1 rfl (wk1 rfl (wk1 rfl (wk1 rfl (wk1 rfl (wk1 rfl (wk1 rfl (wk1 rfl (wk1 rfl (wk1 rfl (wk1 rfl (wk1 rfl (wk1 rfl (wk1 rfl (wk1 rfl (wk1 rfl (wk1 rfl (wk1 rfl (wk1 rfl (wka (wka (wka (wka (wka (wka (wka (wka (wka (wka (wka (wka (wk1 rfl (wk1 rfl (wk1 rfl (wk1 rfl (wk1 rfl (wk1 rfl (wk1 rfl (wk1 rfl (wk1 rfl (wk1 rfl (wk1 rfl (wk1 rfl (wk1 rfl (wk1 rfl (wk1 rfl (wk1 rfl (wk1 rfl (wk1 rfl (wk1 rfl (wk1 rfl (wk1 rfl (wk1 rfl (wk1 rfl (wk1 rfl (wk1 rfl (wk1 rfl (wk1 rfl (wk1 rfl (wk1 rfl (wk1 rfl (wk1 rfl (wk1 rfl (wk1 rfl (wk1 rfl (wk1 rfl (wk1 rfl (wk1 rfl (wk1 rfl (wk1 rfl (wk1 rfl (wk1 rfl (wk1 rfl (wk1 rfl (wk1 rfl (wk1 rfl (wk1 rfl (wk1 rfl (wk1 rfl (wk1 rfl (wk1 rfl (wk1 rfl (wk1 rfl (wk1 rfl (wk1 rfl (wk1 rfl (wk1 rfl wk0)))))))))))))))))))))))))))))))))))))))))))))))))))))))))))))))))))))))))))))))))))))))))))))))))))))))) rfl)⟩
  · rintro x hq7
    try simp only [setsT, setsE, List.set_cons_zero, List.set_cons_succ]
    refine w_seqC (ι := Unit) (fun (x : Unit) => [(15, iv (whenE t (y, m, d) s)), (48, .any), (49, .any), (50, .any), (51, .any), (52, .any), (53, .any), (54, .any), (55, .any), (56, .any), (57, .any), (58, .any), (59, .any), (60, .any), (61, .any), (62, .any)]) (fun (x : Unit) => []) (fun (x : Unit) => True) ?_ ?_
    · try simp only [setsT, setsE, List.set_cons_zero, List.set_cons_succ]
      refine w_seq ?_
      refine w_reg ?_
      refine s_val rfl (v_mv lk15) pt48 ?_
      refine s_val rfl (v_eql lk48 lki) pt49 ?_
      refine s_val rfl (v_mv lk49) pt50 ?_
      first | refine s_splitP gt50 pt50 pt50 (fun hg50 => ?_) (fun hg50 => ?_) | refine s_splitB gt50 pt50 pt50 (fun hg50 => ?_) (fun hg50 => ?_)
      · skip
        refine s_do gt50 ?_
        refine s_val rfl (v_loadpA lk6 (hga hn rfl) LawLocalTells_tk0_3 rfl) pt51 ?_
        refine s_do gt50 ?_
        refine s_callp (mp1 lk51 mp0) (risDate_a) pt52 ?_
        refine s_do gt50 ?_
        refine s_val rfl (v_notB lk52) pt53 ?_
        refine s_do gt50 ?_
        refine s_val rfl (v_mv lk53) pt54 ?_
        refine s_splitB gt54 pt54 pt54 (fun hg54 => ?_) (fun hg54 => ?_)
        · skip
          refine s_no gt54 pt55 ?_
          refine s_no gt54 pt56 ?_
          refine s_do gt50 ?_
          refine s_val rfl (v_pickT lk54 lkb) pt57 ?_
          refine s_do gt50 ?_
          refine s_val rfl (v_mv lk57) pt58 ?_
          refine s_no gt58 pt59 ?_
          refine s_no gt58 pt60 ?_
          refine s_do gt50 ?_
          refine s_val rfl (v_pickT lk58 lkb) pt61 ?_
          refine s_val rfl (v_pickT lk50 lk61) pt62 ?_
          refine s_nil ?_
          refine n_seq ?_
          refine w_condT lk62 ?_
          refine w_reg ?_
          refine s_val rfl (v_mv lki) pt15 ?_
          refine s_nil ?_
          refine n_thn ?_
          have hE : (3 : Int) = whenE t (y, m, d) s := by rw [whenE, if_neg (fun e => e hg50), if_neg (by rintro ⟨a, b, c⟩; simp only at a; first | omega | (simp [a] at hg54))]
          exact ⟨(), (by trivial), (by (try dsimp only); (try simp only [setsT, setsE, List.set_cons_zero, List.set_cons_succ]); exact ALe.same (wk1 rfl (wk1 rfl (wk1 rfl (wk1 rfl (wk1 rfl (wk1 rfl (wk1 rfl (wk1 rfl (wk1 rfl (wk1 rfl (wk1 rfl (wk1 rfl (wk1 rfl (wk1 rfl (wk1 rfl (wk1 (by first | rfl | exact ivx hE.symm) (wk1 rfl (wk1 rfl (wk1 rfl (wk1 rfl (wk1 rfl (wk1 rfl (wk1 rfl (wk1 rfl (wk1 rfl (wk1 rfl (wk1 rfl (wk1 rfl (wk1 rfl (wk1 rfl (wk1 rfl (wk1 rfl (wk1 rfl (wk1 rfl (wk1 rfl (wk1 rfl (wk1 rfl (wk1 rfl (wk1 rfl (wk1 rfl (wk1 rfl (wk1 rfl (wk1 rfl (wk1 rfl (wk1 rfl (wk1 rfl (wk1 rfl (wk1 rfl (wka (wka (wka (wka (wka (wka (wka (wka (wka (wka (wka (wka (wka (wka (wka (wk1 rfl (wk1 rfl (wk1 rfl (wk1 rfl (wk1 rfl (wk1 rfl (wk1 rfl (wk1 rfl (wk1 rfl (wk1 rfl (wk1 rfl (wk1 rfl (wk1 rfl (wk1 rfl (wk1 rfl (wk1 rfl (wk1 rfl (wk1 rfl (wk1 rfl (wk1 rfl (wk1 rfl (wk1 rfl (wk1 rfl (wk1 rfl (wk1 rfl (wk1 rfl (wk1 rfl (wk1 rfl (wk1 rfl (wk1 rfl (wk1 rfl (wk1 rfl (wk1 rfl (wk1 rfl (wk1 rfl (wk1 rfl (wk1 rfl (wk1 rfl (wk1 rfl (wk1 rfl (wk1 rfl wk0)))))))))))))))))))))))))))))))))))))))))))))))))))))))))))))))))))))))))))))))))))))))))))))))))))))))) rfl)⟩
        · skip
          refine s_do gt54 ?_
          refine s_val rfl (v_mv lk3) pt55 ?_
          refine s_do gt54 ?_
          refine s_val rfl (v_lss lk55 lki) pt56 ?_
          refine s_do gt50 ?_
          refine s_val rfl (v_pickF lk54 lk56) pt57 ?_
          refine s_do gt50 ?_
          refine s_val rfl (v_mv lk57) pt58 ?_
          first | refine s_splitP gt58 pt58 pt58 (fun hg58 => ?_) (fun hg58 => ?_) | refine s_splitB gt58 pt58 pt58 (fun hg58 => ?_) (fun hg58 => ?_)
          · skip
            refine s_no gt58 pt59 ?_
            refine s_no gt58 pt60 ?_
            refine s_do gt50 ?_
            refine s_val rfl (v_pickT lk58 lkb) pt61 ?_
            refine s_val rfl (v_pickT lk50 lk61) pt62 ?_
            refine s_nil ?_
            refine n_seq ?_
            refine w_condT lk62 ?_
            refine w_reg ?_
            refine s_val rfl (v_mv lki) pt15 ?_
            refine s_nil ?_
            refine n_thn ?_
            have hE : (3 : Int) = whenE t (y, m, d) s := by rw [whenE, if_neg (fun e => e hg50), if_neg (by rintro ⟨a, b, c⟩; simp only at a; first | omega | (simp [a] at hg54))]
            exact ⟨(), (by trivial), (by (try dsimp only); (try simp only [setsT, setsE, List.set_cons_zero, List.set_cons_succ]); exact ALe.same (wk1 rfl (wk1 rfl (wk1 rfl (wk1 rfl (wk1 rfl (wk1 rfl (wk1 rfl (wk1 rfl (wk1 rfl (wk1 rfl (wk1 rfl (wk1 rfl (wk1 rfl (wk1 rfl (wk1 rfl (wk1 (by first | rfl | exact ivx hE.symm) (wk1 rfl (wk1 rfl (wk1 rfl (wk1 rfl (wk1 rfl (wk1 rfl (wk1 rfl (wk1 rfl (wk1 rfl (wk1 rfl (wk1 rfl (wk1 rfl (wk1 rfl (wk1 rfl (wk1 rfl (wk1 rfl (wk1 rfl (wk1 rfl (wk1 rfl (wk1 rfl (wk1 rfl (wk1 rfl (wk1 rfl (wk1 rfl (wk1 rfl (wk1 rfl (wk1 rfl (wk1 rfl (wk1 rfl (wk1 rfl (wk1 rfl (wk1 rfl (wka (wka (wka (wka (wka (wka (wka (wka (wka (wka (wka (wka (wka (wka (wka (wk1 rfl (wk1 rfl (wk1 rfl (wk1 rfl (wk1 rfl (wk1 rfl (wk1 rfl (wk1 rfl (wk1 rfl (wk1 rfl (wk1 rfl (wk1 rfl (wk1 rfl (wk1 rfl (wk1 rfl (wk1 rfl (wk1 rfl (wk1 rfl (wk1 rfl (wk1 rfl (wk1 rfl (wk1 rfl (wk1 rfl (wk1 rfl (wk1 rfl (wk1 rfl (wk1 rfl (wk1 rfl (wk1 rfl (wk1 rfl (wk1 rfl (wk1 rfl (wk1 rfl (wk1 rfl (wk1 rfl (wk1 rfl (wk1 rfl (wk1 rfl (wk1 rfl (wk1 rfl (wk1 rfl wk0)))))))))))))))))))))))))))))))))))))))))))))))))))))))))))))))))))))))))))))))))))))))))))))))))))))))) rfl)⟩
          · skip
            refine s_do gt58 ?_
            refine s_val rfl (v_mv lk3) pt59 ?_
            refine s_do gt58 ?_
            refine s_val rfl (v_geq lk59 lki) pt60 ?_
            refine s_do gt50 ?_
            refine s_val rfl (v_pickF lk58 lk60) pt61 ?_
            refine s_val rfl (v_pickT lk50 lk61) pt62 ?_
            refine s_nil ?_
            refine n_seq ?_
            first | refine w_cond lk62 (fun hc2 => ?_) (fun hc2 => ?_) | refine w_condB lk62 (fun hc2 => ?_) (fun hc2 => ?_)
            · skip
              refine w_reg ?_
              refine s_val rfl (v_mv lki) pt15 ?_
              refine s_nil ?_
              refine n_thn ?_
              have hE : (3 : Int) = whenE t (y, m, d) s := by rw [whenE, if_neg (fun e => e hg50), if_neg (by rintro ⟨a, b, c⟩; simp only at a; first | omega | (simp [a] at hg54))]
              exact ⟨(), (by trivial), (by (try dsimp only); (try simp only [setsT, setsE, List.set_cons_zero, List.set_cons_succ]); exact ALe.same (wk1 rfl (wk1 rfl (wk1 rfl (wk1 rfl (wk1 rfl (wk1 rfl (wk1 rfl (wk1 rfl (wk1 rfl (wk1 rfl (wk1 rfl (wk1 rfl (wk1 rfl (wk1 rfl (wk1 rfl (wk1 (by first | rfl | exact ivx hE.symm) (wk1 rfl (wk1 rfl (wk1 rfl (wk1 rfl (wk1 rfl (wk1 rfl (wk1 rfl (wk1 rfl (wk1 rfl (wk1 rfl (wk1 rfl (wk1 rfl (wk1 rfl (wk1 rfl (wk1 rfl (wk1 rfl (wk1 rfl (wk1 rfl (wk1 rfl (wk1 rfl (wk1 rfl (wk1 rfl (wk1 rfl (wk1 rfl (wk1 rfl (wk1 rfl (wk1 rfl (wk1 rfl (wk1 rfl (wk1 rfl (wk1 rfl (wk1 rfl (wka (wka (wka (wka (wka (wka (wka (wka (wka (wka (wka (wka (wka (wka (wka (wk1 rfl (wk1 rfl (wk1 rfl (wk1 rfl (wk1 rfl (wk1 rfl (wk1 rfl (wk1 rfl (wk1 rfl (wk1 rfl (wk1 rfl (wk1 rfl (wk1 rfl (wk1 rfl (wk1 rfl (wk1 rfl (wk1 rfl (wk1 rfl (wk1 rfl (wk1 rfl (wk1 rfl (wk1 rfl (wk1 rfl (wk1 rfl (wk1 rfl (wk1 rfl (wk1 rfl (wk1 rfl (wk1 rfl (wk1 rfl (wk1 rfl (wk1 rfl (wk1 rfl (wk1 rfl (wk1 rfl (wk1 rfl (wk1 rfl (wk1 rfl (wk1 rfl (wk1 rfl (wk1 rfl wk0)))))))))))))))))))))))))))))))))))))))))))))))))))))))))))))))))))))))))))))))))))))))))))))))))))))))) rfl)⟩
            · skip
              refine w_skip ?_
              refine n_thn ?_
              have hE : checkT t = whenE t (y, m, d) s := by rw [whenE, if_neg (fun e => e hg50), if_pos ⟨by simpa using hg54, by omega, by omega⟩]; exact hg50
              exact ⟨(), (by trivial), (by (try dsimp only); (try simp only [setsT, setsE, List.set_cons_zero, List.set_cons_succ]); exact ALe.same (wk1 rfl (wk1 rfl (wk1 rfl (wk1 rfl (wk1 rfl (wk1 rfl (wk1 rfl (wk1 rfl (wk1 rfl (wk1 rfl (wk1 rfl (wk1 rfl (wk1 rfl (wk1 rfl (wk1 rfl (wk1 (by first | rfl | exact ivx hE.symm) (wk1 rfl (wk1 rfl (wk1 rfl (wk1 rfl (wk1 rfl (wk1 rfl (wk1 rfl (wk1 rfl (wk1 rfl (wk1 rfl (wk1 rfl (wk1 rfl (wk1 rfl (wk1 rfl (wk1 rfl (wk1 rfl (wk1 rfl (wk1 rfl (wk1 rfl (wk1 rfl (wk1 rfl (wk1 rfl (wk1 rfl (wk1 rfl (wk1 rfl (wk1 rfl (wk1 rfl (wk1 rfl (wk1 rfl (wk1 rfl (wk1 rfl (wk1 rfl (wka (wka (wka (wka (wka (wka (wka (wka (wka (wka (wka (wka (wka (wka (wka (wk1 rfl (wk1 rfl (wk1 rfl (wk1 rfl (wk1 rfl (wk1 rfl (wk1 rfl (wk1 rfl (wk1 rfl (wk1 rfl (wk1 rfl (wk1 rfl (wk1 rfl (wk1 rfl (wk1 rfl (wk1 rfl (wk1 rfl (wk1 rfl (wk1 rfl (wk1 rfl (wk1 rfl (wk1 rfl (wk1 rfl (wk1 rfl (wk1 rfl (wk1 rfl (wk1 rfl (wk1 rfl (wk1 rfl (wk1 rfl (wk1 rfl (wk1 rfl (wk1 rfl (wk1 rfl (wk1 rfl (wk1 rfl (wk1 rfl (wk1 rfl (wk1 rfl (wk1 rfl (wk1 rfl wk0)))))))))))))))))))))))))))))))))))))))))))))))))))))))))))))))))))))))))))))))))))))))))))))))))))))))) rfl)⟩
      · skip
        refine s_no gt50 pt51 ?_
        refine s_no gt50 pt52 ?_
        refine s_no gt50 pt53 ?_
        refine s_no gt50 pt54 ?_
        refine s_nu gt54 pt55 ?_
        refine s_nu gt54 pt56 ?_
        refine s_no gt50 pt57 ?_
        refine s_no gt50 pt58 ?_
        refine s_nu gt58 pt59 ?_
        refine s_nu gt58 pt60 ?_
        refine s_no gt50 pt61 ?_
        refine s_val rfl (v_pickF lk50 lkb) pt62 ?_
        refine s_nil ?_
        refine n_seq ?_
        refine w_condF lk62 ?_
        refine w_skip ?_
        refine n_thn ?_
        have hE : checkT t = whenE t (y, m, d) s := by rw [whenE, if_pos hg50]
        exact ⟨(), (by trivial), (by (try dsimp only); (try simp only [setsT, setsE, List.set_cons_zero, List.set_cons_succ]); exact ALe.same (wk1 rfl (wk1 rfl (wk1 rfl (wk1 rfl (wk1 rfl (wk1 rfl (wk1 rfl (wk1 rfl (wk1 rfl (wk1 rfl (wk1 rfl (wk1 rfl (wk1 rfl (wk1 rfl (wk1 rfl (wk1 (by first | rfl | exact ivx hE.symm) (wk1 rfl (wk1 rfl (wk1 rfl (wk1 rfl (wk1 rfl (wk1 rfl (wk1 rfl (wk1 rfl (wk1 rfl (wk1 rfl (wk1 rfl (wk1 rfl (wk1 rfl (wk1 rfl (wk1 rfl (wk1 rfl (wk1 rfl (wk1 rfl (wk1 rfl (wk1 rfl (wk1 rfl (wk1 rfl (wk1 rfl (wk1 rfl (wk1 rfl (wk1 rfl (wk1 rfl (wk1 rfl (wk1 rfl (wk1 rfl (wk1 rfl (wk1 rfl (wka (wka (wka (wka (wka (wka (wka (wka (wka (wka (wka (wka (wka (wka (wka (wk1 rfl (wk1 rfl (wk1 rfl (wk1 rfl (wk1 rfl (wk1 rfl (wk1 rfl (wk1 rfl (wk1 rfl (wk1 rfl (wk1 rfl (wk1 rfl (wk1 rfl (wk1 rfl (wk1 rfl (wk1 rfl (wk1 rfl (wk1 rfl (wk1 rfl (wk1 rfl (wk1 rfl (wk1 rfl (wk1 rfl (wk1 rfl (wk1 rfl (wk1 rfl (wk1 rfl (wk1 rfl (wk1 rfl (wk1 rfl (wk1 rfl (wk1 rfl (wk1 rfl (wk1 rfl (wk1 rfl (wk1 rfl (wk1 rfl (wk1 rfl (wk1 rfl (wk1 rfl (wk1 rfl wk0)))))))))))))))))))))))))))))))))))))))))))))))))))))))))))))))))))))))))))))))))))))))))))))))))))))))) rfl)⟩
    · rintro x hq9
      try simp only [setsT, setsE, List.set_cons_zero, List.set_cons_succ]
      refine w_seq ?_
      refine w_reg ?_
      refine s_eff rfl rfl (e_new (hl3 hn) ha3) pt16 ?_
      refine s_nil ?_
      refine n_seq ?_
      refine w_seq ?_
      refine w_reg ?_
      refine s_val rfl (v_mv lki) pt17 ?_
      refine s_nil ?_
      refine n_seq ?_
      refine w_seq ?_
      refine w_reg ?_
      refine s_val rfl (v_mv lkn) pt18 ?_
      refine s_nil ?_
      refine n_seq ?_
      refine w_seqC (ι := Unit) (fun (x : Unit) => [(14, iv (wallE t n)), (17, iv (wallS t n)), (63, .any), (64, .any), (65, .any), (66, .any), (67, .any), (68, .any), (69, .any), (70, .any), (71, .any)]) (fun (x : Unit) => [(3, .mk 0 52 3 [iv (wallD t n).1, iv (wallD t n).2.1, iv (wallD t n).2.2])]) (fun (x : Unit) => True) ?_ ?_
      · try simp only [setsT, setsE, List.set_cons_zero, List.set_cons_succ]
        refine w_seq ?_
        refine w_reg ?_
        refine s_val rfl (v_mv lk14) pt63 ?_
        refine s_val rfl (v_eql lk63 lki) pt64 ?_
        refine s_nil ?_
        refine n_seq ?_
        first | refine w_cond lk64 (fun hc3 => ?_) (fun hc3 => ?_) | refine w_condB lk64 (fun hc3 => ?_) (fun hc3 => ?_)
        · skip
          obtain ⟨hv1, hv2⟩ := lookE_ok hc3
          refine w_reg ?_
          refine s_val rfl (v_loadpA lk4 (hga hn rfl) LawLocalTells_tk0_4 rfl) pt66 ?_
          refine s_val rfl (v_mv lk1) pt67 ?_
          refine s_callp (mp1 lk66 (mp1 lk67 mp0)) (rwallOf_a (t := t) hv1 hv2) pt68 ?_
          refine s_val rfl (v_mv lk68) pt65 ?_
          refine s_val rfl (v_ext lk65 gt0) pt69 ?_
          refine s_val rfl (v_ext lk65 gt1) (ptS pt0) ?_
          refine s_val rfl (v_ext lk65 gt2) (ptS pt1) ?_
          refine s_eff rfl rfl (e_store lk16 (cvl lk69 rfl) (hga hn rfl) rfl (Nat.le_of_ble_eq_true rfl) rfl LawLocalTells_sc0_3 (hs3 hn)) ptn ?_
          refine s_val rfl (v_mv (lkS lk0)) pt17 ?_
          refine s_val rfl (v_mv (lkS lk1)) pt14 ?_
          refine s_nil ?_
          refine n_thn ?_
          have hE1 : wallE t n = shE (n + (thereL t n).1) := if_pos hc3
          have hE2 : wallS t n = shS (n + (thereL t n).1) := if_pos hc3
          have hE3 : wallD t n = shD (n + (thereL t n).1) := if_pos hc3
          exact ⟨(), (by trivial), (by (try dsimp only); (try simp only [setsT, setsE, List.set_cons_zero, List.set_cons_succ]); exact ALe.same (wk1 rfl (wk1 rfl (wk1 rfl (wk1 rfl (wk1 rfl (wk1 rfl (wk1 rfl (wk1 rfl (wk1 rfl (wk1 rfl (wk1 rfl (wk1 rfl (wk1 rfl (wk1 rfl (wk1 (by first | rfl | exact ivx hE1 | exact ivx hE2) (wk1 rfl (wk1 rfl (wk1 (by first | rfl | exact ivx hE1 | exact ivx hE2) (wk1 rfl (wk1 rfl (wk1 rfl (wk1 rfl (wk1 rfl (wk1 rfl (wk1 rfl (wk1 rfl (wk1 rfl (wk1 rfl (wk1 rfl (wk1 rfl (wk1 rfl (wk1 rfl (wk1 rfl (wk1 rfl (wk1 rfl (wk1 rfl (wk1 rfl (wk1 rfl (wk1 rfl (wk1 rfl (wk1 rfl (wk1 rfl (wk1 rfl (wk1 rfl (wk1 rfl (wk1 rfl (wk1 rfl (wk1 rfl (wk1 rfl (wk1 rfl (wk1 rfl (wk1 rfl (wk1 rfl (wk1 rfl (wk1 rfl (wk1 rfl (wk1 rfl (wk1 rfl (wk1 rfl (wk1 rfl (wk1 rfl (wk1 rfl (wk1 rfl (wka (wka (wka (wka (wka (wka (wka (wka (wka (wk1 rfl (wk1 rfl (wk1 rfl (wk1 rfl (wk1 rfl (wk1 rfl (wk1 rfl (wk1 rfl (wk1 rfl (wk1 rfl (wk1 rfl (wk1 rfl (wk1 rfl (wk1 rfl (wk1 rfl (wk1 rfl (wk1 rfl (wk1 rfl (wk1 rfl (wk1 rfl (wk1 rfl (wk1 rfl (wk1 rfl (wk1 rfl (wk1 rfl (wk1 rfl (wk1 rfl (wk1 rfl (wk1 rfl (wk1 rfl (wk1 rfl (wk1 rfl wk0)))))))))))))))))))))))))))))))))))))))))))))))))))))))))))))))))))))))))))))))))))))))))))))))))))))))) (by rw [hE3]))⟩
        · skip
          refine w_skip ?_
          refine n_thn ?_
          have hE1 : wallE t n = lookE t n := if_neg hc3
          have hE2 : wallS t n = 0 := if_neg hc3
          have hE3 : wallD t n = (0, 0, 0) := if_neg hc3
          exact ⟨(), (by trivial), (by (try dsimp only); (try simp only [setsT, setsE, List.set_cons_zero, List.set_cons_succ]); exact ALe.same (wk1 rfl (wk1 rfl (wk1 rfl (wk1 rfl (wk1 rfl (wk1 rfl (wk1 rfl (wk1 rfl (wk1 rfl (wk1 rfl (wk1 rfl (wk1 rfl (wk1 rfl (wk1 rfl (wk1 (by first | rfl | exact ivx hE1 | exact ivx hE2) (wk1 rfl (wk1 rfl (wk1 (by first | rfl | exact ivx hE1 | exact ivx hE2) (wk1 rfl (wk1 rfl (wk1 rfl (wk1 rfl (wk1 rfl (wk1 rfl (wk1 rfl (wk1 rfl (wk1 rfl (wk1 rfl (wk1 rfl (wk1 rfl (wk1 rfl (wk1 rfl (wk1 rfl (wk1 rfl (wk1 rfl (wk1 rfl (wk1 rfl (wk1 rfl (wk1 rfl (wk1 rfl (wk1 rfl (wk1 rfl (wk1 rfl (wk1 rfl (wk1 rfl (wk1 rfl (wk1 rfl (wk1 rfl (wk1 rfl (wk1 rfl (wk1 rfl (wk1 rfl (wk1 rfl (wk1 rfl (wk1 rfl (wk1 rfl (wk1 rfl (wk1 rfl (wk1 rfl (wk1 rfl (wk1 rfl (wk1 rfl (wk1 rfl (wka (wka (wka (wka (wka (wka (wka (wka (wka (wk1 rfl (wk1 rfl (wk1 rfl (wk1 rfl (wk1 rfl (wk1 rfl (wk1 rfl (wk1 rfl (wk1 rfl (wk1 rfl (wk1 rfl (wk1 rfl (wk1 rfl (wk1 rfl (wk1 rfl (wk1 rfl (wk1 rfl (wk1 rfl (wk1 rfl (wk1 rfl (wk1 rfl (wk1 rfl (wk1 rfl (wk1 rfl (wk1 rfl (wk1 rfl (wk1 rfl (wk1 rfl (wk1 rfl (wk1 rfl (wk1 rfl (wk1 rfl wk0)))))))))))))))))))))))))))))))))))))))))))))))))))))))))))))))))))))))))))))))))))))))))))))))))))))))) (by rw [hE3]))⟩
      · rintro x hq14
        try simp only [setsT, setsE, List.set_cons_zero, List.set_cons_succ]
        refine w_seq ?_
        refine w_seq ?_
        refine w_reg ?_
        refine s_val rfl (v_mv lk15) (ptS pt2) ?_
        refine s_val rfl (v_eql (lkS lk2) lki) (ptS pt3) ?_
        refine s_nil ?_
        refine n_seq ?_
        first | refine w_cond (lkS lk3) (fun hc4 => ?_) (fun hc4 => ?_) | refine w_condB (lkS lk3) (fun hc4 => ?_) (fun hc4 => ?_)
        · skip
          have hv1 : checkT t = 0 ∧ isDate y m d = true ∧ 0 ≤ s ∧ s < 86400 := by
            unfold whenE at hc4
            split at hc4
            · rename_i h1; exact absurd hc4 h1
            · rename_i h1
              split at hc4
              · rename_i h2; exact ⟨Decidable.of_not_not h1, h2⟩
              · cases hc4
          refine w_reg ?_
          refine s_val rfl (v_loadpA lk4 (hga hn rfl) LawLocalTells_tk0_4 rfl) (ptS pt4) ?_
          refine s_val rfl (v_loadpA lk6 (hga hn rfl) LawLocalTells_tk0_3 rfl) (ptS pt5) ?_
          refine s_val rfl (v_mv lk3) (ptS pt6) ?_
          refine s_callp (mp1 (lkS lk4) (mp1 (lkS lk5) (mp1 (lkS lk6) mp0))) (rwhenOf_a (t := t) hv1.1 hv1.2.1 hv1.2.2.1 hv1.2.2.2) (ptS pt7) ?_
          refine s_val rfl (v_mv (lkS lk7)) pt18 ?_
          refine s_nil ?_
          refine n_seq ?_
          refine w_seq ?_
          refine w_reg ?_
          refine s_callp mp0 (lbegun_a) (ptS pt8) ?_
          refine s_val rfl (v_mv (lkS lk8)) (ptS pt9) ?_
          refine s_do (gtS gt9) ?_
          refine s_val rfl (v_mv lk11) (ptS pt10) ?_
          refine s_do (gtS gt9) ?_
          refine s_val rfl (v_mv lk14) (ptS pt11) ?_
          refine s_do (gtS gt9) ?_
          refine s_val rfl (v_eql (lkS lk10) (lkS lk11)) (ptS pt12) ?_
          refine s_val rfl (v_pickT (lkS lk9) (lkS lk12)) (ptS pt13) ?_
          refine s_val rfl (v_mv (lkS lk13)) (ptS pt14) ?_
          refine s_known (gtS gt14) (b := true) (by exact decide_eq_true rfl) (ptS pt14) ?_
          refine s_do (gtS gt14) ?_
          refine s_val rfl (v_loadpA lk9 (hga hn rfl) LawLocalTells_tk0_3 rfl) (ptS pt15) ?_
          refine s_do (gtS gt14) ?_
          refine s_val rfl (v_loadpA lk16 (hga hn rfl) LawLocalTells_tk0_3 rfl) (ptS pt16) ?_
          refine s_do (gtS gt14) ?_
          refine s_val rfl (v_eqsT (lkS lk15) (lkS lk16) LawLocalTells_eq_iii) (ptS pt17) ?_
          refine s_val rfl (v_pickT (lkS lk14) (lkS lk17)) (ptS pt18) ?_
          refine s_val rfl (v_mv (lkS lk18)) (ptS pt19) ?_
          refine s_known (gtS gt19) (b := true) (by exact decide_eq_true ⟨rfl, rfl, rfl⟩) (ptS pt19) ?_
          refine s_do (gtS gt19) ?_
          refine s_val rfl (v_mv lk10) (ptS pt20) ?_
          refine s_do (gtS gt19) ?_
          refine s_val rfl (v_mv lk17) (ptS pt21) ?_
          refine s_do (gtS gt19) ?_
          refine s_val rfl (v_eql (lkS lk20) (lkS lk21)) (ptS pt22) ?_
          refine s_val rfl (v_pickT (lkS lk19) (lkS lk22)) (ptS pt23) ?_
          refine s_val rfl (v_mv (lkS lk23)) (ptS pt24) ?_
          refine s_known (gtS gt24) (b := true) (by exact decide_eq_true rfl) (ptS pt24) ?_
          refine s_do (gtS gt24) ?_
          refine s_val rfl (v_mv lk13) (ptS pt25) ?_
          refine s_do (gtS gt24) ?_
          refine s_val rfl (v_mv lk15) (ptS pt26) ?_
          refine s_do (gtS gt24) ?_
          refine s_val rfl (v_eql (lkS lk25) (lkS lk26)) (ptS pt27) ?_
          refine s_val rfl (v_pickT (lkS lk24) (lkS lk27)) (ptS pt28) ?_
          refine s_val rfl (v_mv (lkS lk28)) (ptS pt29) ?_
          refine s_known (gtS gt29) (b := true) (by exact decide_eq_true rfl) (ptS pt29) ?_
          refine s_do (gtS gt29) ?_
          refine s_val rfl (v_mv lk12) (ptS pt30) ?_
          refine s_do (gtS gt29) ?_
          refine s_val rfl (v_mv lk18) (ptS pt31) ?_
          refine s_do (gtS gt29) ?_
          refine s_callp (mp1 (lkS lk30) (mp1 (lkS lk31) mp0)) (sameInts_a (l := whenV t (y, m, d) s) (m := whenL t (num y m d * 86400 + s))) (ptS pt32) ?_
          refine s_val rfl (v_pickT (lkS lk29) (lkS lk32)) (ptS pt33) ?_
          refine s_val rfl (v_mv (lkS lk33)) pt8 ?_
          refine s_nil ?_
          refine n_seq ?_
          refine w_rets ?_
          refine w_ret (rs1 (rr_t gt8)) ?_
          refine rt (by first | rfl | (simp only [AV.lt, AV.ltL, Ent.lt, List.all_cons, List.all_nil, Bool.and_true, Bool.and_self, decide_true, chg_lt, int_lt]; done) | (simp [AV.lt, AV.ltL, Ent.lt, chg_lt, int_lt, *]; done) | (simp [AV.lt, AV.ltL, Ent.lt, chg_lt, int_lt, *]; omega)) ?_
          exact bvx (decide_eq_true (if_pos hc4))
        · skip
          refine w_skip ?_
          refine n_seq ?_
          refine w_seq ?_
          refine w_reg ?_
          refine s_callp mp0 (lbegun_a) (ptS pt8) ?_
          refine s_val rfl (v_mv (lkS lk8)) (ptS pt9) ?_
          refine s_do (gtS gt9) ?_
          refine s_val rfl (v_mv lk11) (ptS pt10) ?_
          refine s_do (gtS gt9) ?_
          refine s_val rfl (v_mv lk14) (ptS pt11) ?_
          refine s_do (gtS gt9) ?_
          refine s_val rfl (v_eql (lkS lk10) (lkS lk11)) (ptS pt12) ?_
          refine s_val rfl (v_pickT (lkS lk9) (lkS lk12)) (ptS pt13) ?_
          refine s_val rfl (v_mv (lkS lk13)) (ptS pt14) ?_
          refine s_known (gtS gt14) (b := true) (by exact decide_eq_true rfl) (ptS pt14) ?_
          refine s_do (gtS gt14) ?_
          refine s_val rfl (v_loadpA lk9 (hga hn rfl) LawLocalTells_tk0_3 rfl) (ptS pt15) ?_
          refine s_do (gtS gt14) ?_
          refine s_val rfl (v_loadpA lk16 (hga hn rfl) LawLocalTells_tk0_3 rfl) (ptS pt16) ?_
          refine s_do (gtS gt14) ?_
          refine s_val rfl (v_eqsT (lkS lk15) (lkS lk16) LawLocalTells_eq_iii) (ptS pt17) ?_
          refine s_val rfl (v_pickT (lkS lk14) (lkS lk17)) (ptS pt18) ?_
          refine s_val rfl (v_mv (lkS lk18)) (ptS pt19) ?_
          refine s_known (gtS gt19) (b := true) (by exact decide_eq_true ⟨rfl, rfl, rfl⟩) (ptS pt19) ?_
          refine s_do (gtS gt19) ?_
          refine s_val rfl (v_mv lk10) (ptS pt20) ?_
          refine s_do (gtS gt19) ?_
          refine s_val rfl (v_mv lk17) (ptS pt21) ?_
          refine s_do (gtS gt19) ?_
          refine s_val rfl (v_eql (lkS lk20) (lkS lk21)) (ptS pt22) ?_
          refine s_val rfl (v_pickT (lkS lk19) (lkS lk22)) (ptS pt23) ?_
          refine s_val rfl (v_mv (lkS lk23)) (ptS pt24) ?_
          refine s_known (gtS gt24) (b := true) (by exact decide_eq_true rfl) (ptS pt24) ?_
          refine s_do (gtS gt24) ?_
          refine s_val rfl (v_mv lk13) (ptS pt25) ?_
          refine s_do (gtS gt24) ?_
          refine s_val rfl (v_mv lk15) (ptS pt26) ?_
          refine s_do (gtS gt24) ?_
          refine s_val rfl (v_eql (lkS lk25) (lkS lk26)) (ptS pt27) ?_
          refine s_val rfl (v_pickT (lkS lk24) (lkS lk27)) (ptS pt28) ?_
          refine s_val rfl (v_mv (lkS lk28)) (ptS pt29) ?_
          refine s_known (gtS gt29) (b := true) (by exact decide_eq_true rfl) (ptS pt29) ?_
          refine s_do (gtS gt29) ?_
          refine s_val rfl (v_mv lk12) (ptS pt30) ?_
          refine s_do (gtS gt29) ?_
          refine s_val rfl (v_mv lk18) (ptS pt31) ?_
          refine s_do (gtS gt29) ?_
          refine s_callp (mp1 (lkS lk30) (mp1 (lkS lk31) mp0)) (ACalls.wk (wkw (Wk.refl _) (wkw Wk.nilF wk0)) <| sameInts_a (l := whenV t (y, m, d) s) (m := []) (f2 := false)) (ptS pt32) ?_
          refine s_val rfl (v_pickT (lkS lk29) (lkS lk32)) (ptS pt33) ?_
          refine s_val rfl (v_mv (lkS lk33)) pt8 ?_
          refine s_nil ?_
          refine n_seq ?_
          refine w_rets ?_
          refine w_ret (rs1 (rr_t gt8)) ?_
          refine rt (by first | rfl | (simp only [AV.lt, AV.ltL, Ent.lt, List.all_cons, List.all_nil, Bool.and_true, Bool.and_self, decide_true, chg_lt, int_lt]; done) | (simp [AV.lt, AV.ltL, Ent.lt, chg_lt, int_lt, *]; done) | (simp [AV.lt, AV.ltL, Ent.lt, chg_lt, int_lt, *]; omega)) ?_
          exact bvx (decide_eq_true (if_neg hc4))

set_option maxRecDepth 100000 in
theorem lifted (os : Os) (started : os.Started) (H : Type) (enc : TypeId × Value → H) :
    ReturnsInHanded {} Try.checked os 9 .any (Rows.localTellsSpec.pre6 enc Try.prog Try.f9 Rows.localTellsRow.domain false) (Rows.localTellsSpec.post enc Try.prog Try.f9 false true false false) := by
  refine returnsInHanded_of_change (C := Try.checked) own started (by kernel_rfl) Try.func9
    (ChangeSpec.witness6 (enc := enc) (C := Try.checked) false ⟨#[], #[.agg #[.int .i64 0, .int .i64 0, .string ⟨#[]⟩, .slice none 0 0], .int .i64 0, .agg #[.int .i64 0, .int .i64 0, .int .i64 0], .int .i64 0], []⟩ 8 (by kernel_rfl) (by kernel_rfl) (by kernel_rfl) (by kernel_rfl)) ?_
  intro W base args ds gs before hval0 hW0 _ _
  have hval : ∀ (j : Nat) t v, Try.f9.params[j]? = some t → args[j]? = some v → Value.okWide Try.prog W .any base t v := hval0
  have hW := hW0
  obtain ⟨p, q, hA0, _, _, _, _⟩ := hW
  have hA : DataW.TrodAll enc Try.prog W 0 (fun _ => true) true Try.f9.params.toList args.toList ds p := hA0
  have hfin : ∀ W', Below W.heap.size W W' → (∃ d, ds = d) → Rows.localTellsSpec.fn H ds = { results := [.lit (.bool true)], args := ds } → Rows.localTellsSpec.post enc Try.prog Try.f9 false true false false W args (.bool true) W' :=
    fun W' hb _ hs => law_post laidOut (by kernel_rfl) rfl Try.underlying4 rfl hs hW0 hb
  rw [Try.params9] at hA hval
  obtain ⟨v0, vs0, d0, ds0, p0, q0, hargs, rfl, rfl, h0, r0⟩ := trodAll_cons hA
  obtain ⟨v1, vs1, d1, ds1, p1, q1, rfl, rfl, rfl, h1, r1⟩ := trodAll_cons r0
  obtain ⟨v2, vs2, d2, ds2, p2, q2, rfl, rfl, rfl, h2, r2⟩ := trodAll_cons r1
  obtain ⟨v3, vs3, d3, ds3, p3, q3, rfl, rfl, rfl, h3, r3⟩ := trodAll_cons r2
  obtain ⟨rfl, rfl, rfl⟩ := trodAll_nil r3
  obtain rfl : args = #[v0, v1, v2, v3] := by cases args; simp_all
  obtain ⟨t, ht, k0⟩ := arg_struct TabD Try.underlying26 (by kernel_rfl) (hval 0 26 _ rfl rfl) h0
  obtain ⟨n, hn, k1⟩ := arg_int Try.underlying3 (hval 1 3 _ rfl rfl) h1
  obtain ⟨d, hd, k2⟩ := arg_struct DateD Try.underlying52 (by kernel_rfl) (hval 2 52 _ rfl rfl) h2
  obtain ⟨s, hs, k3⟩ := arg_int Try.underlying3 (hval 3 3 _ rfl rfl) h3
  refine (law_calls (walk (okT_of ht)) (repL1 k0 (repL1 k1 (repL1 k2 (repL1 k3 repL0))))).mono fun e W' ⟨he, hb⟩ => ?_
  subst he
  exact ⟨_, rfl, hfin W' hb ⟨_, rfl⟩ rfl⟩

theorem proved : Rows.LocalTellsSaid :=
  OpenClaim.holds_of_wide 9 Try.f9 rfl rfl rfl rfl rfl rfl rfl ⟨rfl, rfl, rfl, rfl, rfl⟩ rfl rfl rfl rfl rfl (by kernel_rfl) Try.func9 (by kernel_rfl)
    (of_decide_eq_true (by kernel_rfl)) (by unfold Func.isWrapper; first | (rw [if_pos (by decide +kernel)]; kernel_rfl) | (rw [if_neg (by decide +kernel)]; exact ⟨rfl, rfl⟩))
    (fun os started H enc _ => lifted os started H enc)

end Go.Proofs.Ytmbebimingkfeaa.localTells
