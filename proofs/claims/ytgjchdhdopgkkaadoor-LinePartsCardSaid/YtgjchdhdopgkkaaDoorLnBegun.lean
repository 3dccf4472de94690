/-
  Contract on plain data: what the laws of lines begin with. No condition.
-/
import Derived.Test.YtgjchdhdopgkkaaDoorLineF
import Derived.Test.YtgjchdhdopgkkaaDoorARd
set_option linter.unusedVariables false
set_option linter.unusedSimpArgs false
set_option maxRecDepth 100000
namespace Go.Proofs.YtgjchdhdopgkkaaDoor
open Go.Ab Go.RowKit
/-- datelinelaw.lineBegun -/
def c7 : AC := (.seq (.reg [⟨(some 0), none, (.mv (.const (.bool false)))⟩]) (.seq (.reg [⟨(some 7), none, (.call (.func 8) [(.const (.string ⟨#[97, 32, 34, 98, 32, 99, 34, 32, 35, 100, 10, 10, 32, 101]⟩))])⟩, ⟨(some 6), none, (.mv (.tmp 7))⟩, ⟨(some 8), none, (.ext (.tmp 6) 0)⟩, ⟨(some 9), none, (.ext (.tmp 6) 1)⟩, ⟨(some 10), none, (.ext (.tmp 6) 2)⟩, ⟨(some 1), none, (.mv (.tmp 8))⟩, ⟨(some 2), none, (.mv (.tmp 9))⟩, ⟨(some 3), none, (.mv (.tmp 10))⟩]) (.seq (.reg [⟨(some 12), none, (.mv (.tmp 1))⟩, ⟨(some 13), none, (.call (.func 11) [(.tmp 12)])⟩, ⟨(some 11), none, (.mv (.tmp 13))⟩, ⟨(some 14), none, (.ext (.tmp 11) 0)⟩, ⟨(some 15), none, (.ext (.tmp 11) 1)⟩, ⟨(some 4), none, (.mv (.tmp 14))⟩, ⟨(some 5), none, (.mv (.tmp 15))⟩]) (.seq (.reg [⟨(some 16), none, (.mv (.tmp 3))⟩, ⟨(some 17), none, (.bin .eql (.tmp 16) (.const (.int .i64 0)))⟩, ⟨(some 18), none, (.mv (.tmp 17))⟩, ⟨(some 19), (some (18, true)), (.mv (.tmp 5))⟩, ⟨(some 20), (some (18, true)), (.bin .eql (.tmp 19) (.const (.int .i64 0)))⟩, ⟨(some 21), none, (.pick (.tmp 18) (.tmp 20) (.const (.bool false)))⟩, ⟨(some 22), none, (.mv (.tmp 21))⟩, ⟨(some 23), (some (22, true)), (.mv (.tmp 1))⟩, ⟨(some 24), (some (22, true)), (.len false (.tmp 23))⟩, ⟨(some 25), (some (22, true)), (.bin .eql (.tmp 24) (.const (.int .i64 2)))⟩, ⟨(some 26), none, (.pick (.tmp 22) (.tmp 25) (.const (.bool false)))⟩, ⟨(some 27), none, (.mv (.tmp 26))⟩, ⟨(some 28), (some (27, true)), (.mv (.tmp 1))⟩, ⟨(some 29), (some (27, true)), (.ia 3 (.tmp 28) (.const (.int .i64 1)))⟩, ⟨(some 30), (some (27, true)), (.fa 0 (.tmp 29))⟩, ⟨(some 31), (some (27, true)), (.load false 1 (.tmp 30))⟩, ⟨(some 32), (some (27, true)), (.bin .eql (.tmp 31) (.const (.int .i64 3)))⟩, ⟨(some 33), none, (.pick (.tmp 27) (.tmp 32) (.const (.bool false)))⟩, ⟨(some 34), none, (.mv (.tmp 33))⟩, ⟨(some 35), (some (34, true)), (.mv (.tmp 1))⟩, ⟨(some 36), (some (34, true)), (.ia 3 (.tmp 35) (.const (.int .i64 1)))⟩, ⟨(some 37), (some (34, true)), (.fa 1 (.tmp 36))⟩, ⟨(some 38), (some (34, true)), (.load false 1 (.tmp 37))⟩, ⟨(some 39), none, (.pick (.tmp 34) (.tmp 38) (.const (.bool false)))⟩, ⟨(some 40), none, (.mv (.tmp 39))⟩, ⟨(some 41), (some (40, true)), (.mv (.tmp 1))⟩, ⟨(some 42), (some (40, true)), (.ia 3 (.tmp 41) (.const (.int .i64 0)))⟩, ⟨(some 43), (some (40, true)), (.fa 2 (.tmp 42))⟩, ⟨(some 44), (some (40, true)), (.load false 1 (.tmp 43))⟩, ⟨(some 45), (some (40, true)), (.len false (.tmp 44))⟩, ⟨(some 46), (some (40, true)), (.bin .eql (.tmp 45) (.const (.int .i64 2)))⟩, ⟨(some 47), none, (.pick (.tmp 40) (.tmp 46) (.const (.bool false)))⟩, ⟨(some 48), none, (.mv (.tmp 47))⟩, ⟨(some 49), (some (48, true)), (.mv (.tmp 4))⟩, ⟨(some 50), (some (48, true)), (.bin .eql (.tmp 49) (.const (.string ⟨#[97, 32, 34, 98, 32, 99, 34, 10, 32, 101, 10]⟩)))⟩, ⟨(some 51), none, (.pick (.tmp 48) (.tmp 50) (.const (.bool false)))⟩, ⟨(some 0), none, (.mv (.tmp 51))⟩]) .ret))))
theorem k7 : compF Tryd.prog 7 = some ⟨c7, [(.tmp 0)], 52⟩ := by kernel_rfl
theorem i7 {h : AH} {R : AE → Prop} (hw : ∀ n, h.length = n → (∀ e ∈ h, e.lt n = true) → AV.ltL n [] = true → AV.bdL [] → aw Tryd.prog n c7 (retA [(.tmp 0)] fun x h' => ∃ z, h' = h ++ z ∧ x.lt n = true ∧ R x) [.any, .any, .any, .any, .any, .any, .any, .any, .any, .any, .any, .any, .any, .any, .any, .any, .any, .any, .any, .any, .any, .any, .any, .any, .any, .any, .any, .any, .any, .any, .any, .any, .any, .any, .any, .any, .any, .any, .any, .any, .any, .any, .any, .any, .any, .any, .any, .any, .any, .any, .any, .any] (h ++ [])) : ACalls Tryd.prog 7 [] h fun x h' => h' = h ∧ R x := ACalls.into k7 rfl hw
theorem w7 {h : AH} {res : AV} (hw : ∀ n, h.length = n → (∀ e ∈ h, e.lt n = true) → AV.ltL n [] = true → AV.bdL [] → aw Tryd.prog n c7 (retA [(.tmp 0)] fun x h' => ∃ z, h' = h ++ z ∧ x.lt n = true ∧ ∃ c, x = .ret c ∧ Wk c res) [.any, .any, .any, .any, .any, .any, .any, .any, .any, .any, .any, .any, .any, .any, .any, .any, .any, .any, .any, .any, .any, .any, .any, .any, .any, .any, .any, .any, .any, .any, .any, .any, .any, .any, .any, .any, .any, .any, .any, .any, .any, .any, .any, .any, .any, .any, .any, .any, .any, .any, .any, .any] (h ++ [])) : ACalls Tryd.prog 7 [] h fun x h' => h' = h ∧ x = .ret res := ACalls.weak (ACalls.into k7 rfl hw)
theorem n7 {h : AH} {R : AE → AH → Prop} (hw : ∀ n, h.length = n → (∀ e ∈ h, e.lt n = true) → AV.ltL n [] = true → AV.bdL [] → aw Tryd.prog n c7 (retA [(.tmp 0)] R) [.any, .any, .any, .any, .any, .any, .any, .any, .any, .any, .any, .any, .any, .any, .any, .any, .any, .any, .any, .any, .any, .any, .any, .any, .any, .any, .any, .any, .any, .any, .any, .any, .any, .any, .any, .any, .any, .any, .any, .any, .any, .any, .any, .any, .any, .any, .any, .any, .any, .any, .any, .any] (h ++ [])) : ACalls Tryd.prog 7 [] h R := ACalls.intoN k7 rfl hw
theorem j7 {h : AH} {R : AE → AH → Prop} (hw : ∀ n, h.length = n → (∀ e ∈ h, e.lt n = true) → AV.ltL n [] = true → AV.bdL [] → aw Tryd.prog n c7 (retA [(.tmp 0)] fun x h' => ∃ y z, h' = y ++ z ∧ y.length = n ∧ (∀ e ∈ y, e.lt n = true) ∧ x.lt n = true ∧ R x y) [.any, .any, .any, .any, .any, .any, .any, .any, .any, .any, .any, .any, .any, .any, .any, .any, .any, .any, .any, .any, .any, .any, .any, .any, .any, .any, .any, .any, .any, .any, .any, .any, .any, .any, .any, .any, .any, .any, .any, .any, .any, .any, .any, .any, .any, .any, .any, .any, .any, .any, .any, .any] (h ++ [])) : ACalls Tryd.prog 7 [] h R := ACalls.intoG k7 rfl hw
def smallS : Bs := [97, 32, 34, 98, 32, 99, 34, 32, 35, 100, 10, 10, 32, 101]
def smallL : List Ln := [(1, false, [bA [97], bA [98, 32, 99]]), (3, true, [bA [101]])]
def smallT : Bs := [97, 32, 34, 98, 32, 99, 34, 10, 32, 101, 10]
theorem split_small : splitL (bA smallS) = (smallL, 0, 0) := by kernel_rfl
theorem join_small : joinV smallL = (bA smallT, 0) := by kernel_rfl
theorem sp_small {h : AH} : ACalls Tryd.prog 8 [sv (bA smallS)] h fun x h' => h' = h ∧ x = .ret (.tup [.sl smallL.length 3 false (rows lnC smallL), iv 0, iv 0]) := by
  have := lnSplit_a (s := bA smallS) (h := h)
  rw [split_small] at this
  exact this
theorem jn_small {h : AH} : ACalls Tryd.prog 11 [.sl smallL.length 3 false (rows lnC smallL)] h fun x h' => h' = h ∧ x = .ret (.tup [sv (bA smallT), iv 0]) := by
  have := lnJoin_a (l := smallL) (full := false) (h := h) (by unfold okLns smallL; decide)
  rw [join_small] at this
  exact this
theorem lbegun_a {h : AH} : ACalls Tryd.prog 7 [] h fun x h' => h' = h ∧ x = .ret (bv true) := by
  refine i7 ?_
  intro N hn hlt hlA hbd
  try simp only [AV.bdL, AV.bd, and_true, true_and] at hbd
  have hsl : smallL.length = 2 := rfl
  refine w_seq ?_
  refine w_reg ?_
  refine s_val rfl (v_mv lkb) pt0 ?_
  refine s_nil ?_
  refine n_seq ?_
  refine w_seq ?_
  refine w_reg ?_
  refine s_callp (mp1 lks mp0) (sp_small) pt7 ?_
  refine s_val rfl (v_mv lk7) pt6 ?_
  refine s_val rfl (v_ext lk6 gt0) pt8 ?_
  refine s_val rfl (v_ext lk6 gt1) pt9 ?_
  refine s_val rfl (v_ext lk6 gt2) pt10 ?_
  refine s_val rfl (v_mv lk8) pt1 ?_
  refine s_val rfl (v_mv lk9) pt2 ?_
  refine s_val rfl (v_mv lk10) pt3 ?_
  refine s_nil ?_
  refine n_seq ?_
  refine w_seq ?_
  refine w_reg ?_
  refine s_val rfl (v_mv lk1) pt12 ?_
  refine s_callp (mp1 lk12 mp0) (jn_small) pt13 ?_
  refine s_val rfl (v_mv lk13) pt11 ?_
  refine s_val rfl (v_ext lk11 gt0) pt14 ?_
  refine s_val rfl (v_ext lk11 gt1) pt15 ?_
  refine s_val rfl (v_mv lk14) pt4 ?_
  refine s_val rfl (v_mv lk15) pt5 ?_
  refine s_nil ?_
  refine n_seq ?_
  refine w_seq ?_
  refine w_reg ?_
  refine s_val rfl (v_mv lk3) pt16 ?_
  refine s_val rfl (v_eql lk16 lki) pt17 ?_
  refine s_val rfl (v_mv lk17) pt18 ?_
  refine s_known gt18 (b := true) (by rfl) pt18 ?_
  refine s_do gt18 ?_
  refine s_val rfl (v_mv lk5) pt19 ?_
  refine s_do gt18 ?_
  refine s_val rfl (v_eql lk19 lki) pt20 ?_
  refine s_val rfl (v_pickT lk18 lk20) pt21 ?_
  refine s_val rfl (v_mv lk21) pt22 ?_
  refine s_known gt22 (b := true) (by rfl) pt22 ?_
  refine s_do gt22 ?_
  refine s_val rfl (v_mv lk1) pt23 ?_
  refine s_do gt22 ?_
  refine s_val rfl ((by first | exact v_lenL lk23 | exact v_lenO lk23)) pt24 ?_
  refine s_do gt22 ?_
  refine s_val rfl (v_eql lk24 lki) pt25 ?_
  refine s_val rfl (v_pickT lk22 lk25) pt26 ?_
  refine s_val rfl (v_mv lk26) pt27 ?_
  refine s_known gt27 (b := true) (by rfl) pt27 ?_
  refine s_do gt27 ?_
  refine s_val rfl (v_mv lk1) pt28 ?_
  refine s_do gt27 ?_
  refine s_val rfl (v_iaR (k := 1) lk28 lki ln_len1 (Nat.le_of_ble_eq_true rfl) (by first | rfl | omega) (by omega) (by first | rfl | omega) rfl) pt29 ?_
  refine s_do gt27 ?_
  refine s_val rfl (v_far lk29 dp0) pt30 ?_
  refine s_do gt27 ?_
  refine s_val rfl (v_loadr lk30 gt0) pt31 ?_
  refine s_do gt27 ?_
  refine s_val rfl (v_eql lk31 lki) pt32 ?_
  refine s_val rfl (v_pickT lk27 lk32) pt33 ?_
  refine s_val rfl (v_mv lk33) pt34 ?_
  refine s_known gt34 (b := true) (by rfl) pt34 ?_
  refine s_do gt34 ?_
  refine s_val rfl (v_mv lk1) pt35 ?_
  refine s_do gt34 ?_
  refine s_val rfl (v_iaR (k := 1) lk35 lki ln_len1 (Nat.le_of_ble_eq_true rfl) (by first | rfl | omega) (by omega) (by first | rfl | omega) rfl) pt36 ?_
  refine s_do gt34 ?_
  refine s_val rfl (v_far lk36 dp1) pt37 ?_
  refine s_do gt34 ?_
  refine s_val rfl (v_loadr lk37 gt0) pt38 ?_
  refine s_val rfl (v_pickT lk34 lk38) pt39 ?_
  refine s_val rfl (v_mv lk39) pt40 ?_
  refine s_known gt40 (b := true) (by rfl) pt40 ?_
  refine s_do gt40 ?_
  refine s_val rfl (v_mv lk1) pt41 ?_
  refine s_do gt40 ?_
  refine s_val rfl (v_iaR (k := 0) lk41 lki ln_len1 (Nat.le_of_ble_eq_true rfl) (by first | rfl | omega) (by omega) (by first | rfl | omega) rfl) pt42 ?_
  refine s_do gt40 ?_
  refine s_val rfl (v_far lk42 dp2) pt43 ?_
  refine s_do gt40 ?_
  refine s_val rfl (v_loadr lk43 gt0) pt44 ?_
  refine s_do gt40 ?_
  refine s_val rfl ((by first | exact v_lenL lk44 | exact v_lenO lk44)) pt45 ?_
  refine s_do gt40 ?_
  refine s_val rfl (v_eql lk45 lki) pt46 ?_
  refine s_val rfl (v_pickT lk40 lk46) pt47 ?_
  refine s_val rfl (v_mv lk47) pt48 ?_
  refine s_known gt48 (b := true) (by rfl) pt48 ?_
  refine s_do gt48 ?_
  refine s_val rfl (v_mv lk4) pt49 ?_
  refine s_do gt48 ?_
  refine s_val rfl (v_eqlS lk49 lks) pt50 ?_
  refine s_val rfl (v_pickT lk48 lk50) pt51 ?_
  refine s_val rfl (v_mv lk51) pt0 ?_
  refine s_nil ?_
  refine n_seq ?_
  refine w_rets ?_
  refine w_ret (rs1 (rr_t gt0)) ?_
  refine rt (by first | rfl | (simp only [AV.lt, AV.ltL, Ent.lt, List.all_cons, List.all_nil, Bool.and_true, Bool.and_self, decide_true, str_lt, ln_lt]; done) | (simp [AV.lt, AV.ltL, Ent.lt, str_lt, ln_lt, *]; done) | (simp [AV.lt, AV.ltL, Ent.lt, str_lt, ln_lt, *]; omega)) ?_
  exact bvx (by kernel_rfl)
abbrev LnD : Ds := .pair .int (.pair .bool (.slice .str))
theorem okLns_of {l : List Ln} (h : okD (.slice LnD) l) : okLns l := fun x hx f hf => by
  obtain ⟨i, hi, rfl⟩ := List.getElem_of_mem hx
  obtain ⟨j, hj, rfl⟩ := List.getElem_of_mem hf
  exact (h i hi).2.2 j hj
end Go.Proofs.YtgjchdhdopgkkaaDoor
