/-
  DeltaTells answers true, whatever tables and patch it is handed, and leaves them as they were. No condition.
-/
import Derived.Test.YtmbebimingkfeaaADelP
import Derived.Test.YtmbebimingkfeaaARefB
set_option linter.unusedVariables false
set_option linter.unusedSimpArgs false
set_option maxRecDepth 100000
namespace Go.Proofs.Ytmbebimingkfeaa.deltaTells
open Go.ChangeShapes Go.WideShapes Go.ChangeAt Go.RowKit Go.Ab Civ
section
theorem LawDeltaTells_tk0_4 {a0 a1 a2 a3 : AV} {l : List AV} : ((a0 :: a1 :: a2 :: a3 :: l).drop 0).take 4 = [a0, a1, a2, a3] := rfl
theorem LawDeltaTells_sc0_6 {a0 a1 a2 a3 a4 a5 c0 c1 c2 c3 c4 c5 : AV} {l : List AV} : setCells (a0 :: a1 :: a2 :: a3 :: a4 :: a5 :: l) 0 [c0, c1, c2, c3, c4, c5] = c0 :: c1 :: c2 :: c3 :: c4 :: c5 :: l := rfl
theorem LawDeltaTells_tk0_6 {a0 a1 a2 a3 a4 a5 : AV} {l : List AV} : ((a0 :: a1 :: a2 :: a3 :: a4 :: a5 :: l).drop 0).take 6 = [a0, a1, a2, a3, a4, a5] := rfl
theorem LawDeltaTells_sc0_4 {a0 a1 a2 a3 c0 c1 c2 c3 : AV} {l : List AV} : setCells (a0 :: a1 :: a2 :: a3 :: l) 0 [c0, c1, c2, c3] = c0 :: c1 :: c2 :: c3 :: l := rfl
end
/-- datelinelaw.DeltaTells -/
def c4 : AC := (.seq (.reg [⟨(some 3), none, (.box 26 4 (.tmp 0))⟩, ⟨(some 4), none, (.box 26 4 (.tmp 1))⟩, ⟨(some 5), none, (.box 28 6 (.tmp 2))⟩, ⟨(some 6), none, (.mv (.const (.bool false)))⟩]) (.seq (.reg [⟨(some 16), none, (.load true 4 (.tmp 3))⟩, ⟨(some 17), none, (.load true 4 (.tmp 4))⟩, ⟨(some 18), none, (.call (.func 13) [(.tmp 16), (.tmp 17)])⟩, ⟨(some 15), none, (.mv (.tmp 18))⟩, ⟨(some 19), none, (.ext (.tmp 15) 0)⟩, ⟨(some 20), none, (.ext (.tmp 15) 1)⟩, ⟨(some 7), none, (.new 28 6 [(.v (.int .i64 0)), (.v (.int .i64 0)), (.v (.string ⟨#[]⟩)), (.v (.int .i64 0)), (.v (.int .i64 0)), (.sl 0 0 true [])])⟩, ⟨none, none, (.store 6 (.tmp 7) (.tmp 19))⟩, ⟨(some 8), none, (.mv (.tmp 20))⟩]) (.seq (.reg [⟨(some 22), none, (.load true 4 (.tmp 3))⟩, ⟨(some 23), none, (.load true 6 (.tmp 5))⟩, ⟨(some 24), none, (.call (.func 12) [(.tmp 22), (.tmp 23)])⟩, ⟨(some 21), none, (.mv (.tmp 24))⟩, ⟨(some 25), none, (.ext (.tmp 21) 0)⟩, ⟨(some 26), none, (.ext (.tmp 21) 1)⟩, ⟨(some 9), none, (.new 26 4 [(.v (.int .i64 0)), (.v (.int .i64 0)), (.v (.string ⟨#[]⟩)), (.sl 0 0 true [])])⟩, ⟨none, none, (.store 4 (.tmp 9) (.tmp 25))⟩, ⟨(some 10), none, (.mv (.tmp 26))⟩]) (.seq (.reg [⟨(some 27), none, (.load true 4 (.tmp 3))⟩, ⟨(some 28), none, (.call (.func 14) [(.tmp 27)])⟩, ⟨(some 11), none, (.mv (.tmp 28))⟩]) (.seq (.reg [⟨(some 29), none, (.mv (.tmp 11))⟩, ⟨(some 12), none, (.mv (.tmp 29))⟩]) (.seq (.reg [⟨(some 13), none, (.new 26 4 [(.v (.int .i64 0)), (.v (.int .i64 0)), (.v (.string ⟨#[]⟩)), (.sl 0 0 true [])])⟩]) (.seq (.seq (.reg [⟨(some 30), none, (.mv (.tmp 12))⟩, ⟨(some 31), none, (.bin .eql (.tmp 30) (.const (.int .i64 0)))⟩]) (.cond (.tmp 31) (.reg [⟨(some 33), none, (.load true 4 (.tmp 3))⟩, ⟨(some 34), none, (.load true 6 (.tmp 5))⟩, ⟨(some 35), none, (.call (.func 15) [(.tmp 33), (.tmp 34)])⟩, ⟨(some 32), none, (.mv (.tmp 35))⟩, ⟨(some 36), none, (.ext (.tmp 32) 0)⟩, ⟨(some 37), none, (.ext (.tmp 32) 1)⟩, ⟨none, none, (.store 4 (.tmp 13) (.tmp 36))⟩, ⟨(some 12), none, (.mv (.tmp 37))⟩]) .skip)) (.seq (.seq (.reg [⟨(some 38), none, (.mv (.tmp 11))⟩, ⟨(some 39), none, (.bin .eql (.tmp 38) (.const (.int .i64 0)))⟩]) (.cond (.tmp 39) (.reg [⟨(some 40), none, (.load true 4 (.tmp 4))⟩, ⟨(some 41), none, (.call (.func 14) [(.tmp 40)])⟩, ⟨(some 11), none, (.mv (.tmp 41))⟩]) .skip)) (.seq (.reg [⟨(some 14), none, (.new 28 6 [(.v (.int .i64 0)), (.v (.int .i64 0)), (.v (.string ⟨#[]⟩)), (.v (.int .i64 0)), (.v (.int .i64 0)), (.sl 0 0 true [])])⟩]) (.seq (.seq (.reg [⟨(some 42), none, (.mv (.tmp 11))⟩, ⟨(some 43), none, (.bin .eql (.tmp 42) (.const (.int .i64 0)))⟩]) (.cond (.tmp 43) (.reg [⟨(some 44), none, (.load true 4 (.tmp 3))⟩, ⟨(some 45), none, (.load true 4 (.tmp 4))⟩, ⟨(some 46), none, (.call (.func 16) [(.tmp 44), (.tmp 45)])⟩, ⟨none, none, (.store 6 (.tmp 14) (.tmp 46))⟩]) .skip)) (.seq (.reg [⟨(some 47), none, (.call (.func 11) [])⟩, ⟨(some 48), none, (.mv (.tmp 47))⟩, ⟨(some 49), (some (48, true)), (.mv (.tmp 8))⟩, ⟨(some 50), (some (48, true)), (.mv (.tmp 11))⟩, ⟨(some 51), (some (48, true)), (.bin .eql (.tmp 49) (.tmp 50))⟩, ⟨(some 52), none, (.pick (.tmp 48) (.tmp 51) (.const (.bool false)))⟩, ⟨(some 53), none, (.mv (.tmp 52))⟩, ⟨(some 54), (some (53, true)), (.load true 6 (.tmp 7))⟩, ⟨(some 55), (some (53, true)), (.load true 6 (.tmp 14))⟩, ⟨(some 56), (some (53, true)), (.call (.func 17) [(.tmp 54), (.tmp 55)])⟩, ⟨(some 57), none, (.pick (.tmp 53) (.tmp 56) (.const (.bool false)))⟩, ⟨(some 58), none, (.mv (.tmp 57))⟩, ⟨(some 59), (some (58, true)), (.load true 4 (.tmp 9))⟩, ⟨(some 60), (some (58, true)), (.mv (.tmp 10))⟩, ⟨(some 61), (some (58, true)), (.mv (.tmp 12))⟩, ⟨(some 62), (some (58, true)), (.load true 4 (.tmp 13))⟩, ⟨(some 63), (some (58, true)), (.call (.func 18) [(.tmp 59), (.tmp 60), (.tmp 61), (.tmp 62)])⟩, ⟨(some 64), none, (.pick (.tmp 58) (.tmp 63) (.const (.bool false)))⟩, ⟨(some 6), none, (.mv (.tmp 64))⟩]) .ret)))))))))))
theorem k4 : compF Try.prog 4 = some ⟨c4, [(.tmp 6)], 65⟩ := by kernel_rfl
theorem i4 {a0 a1 a2 : AV} {h : AH} {R : AE → Prop} (hw : ∀ n, h.length = n → (∀ e ∈ h, e.lt n = true) → AV.ltL n [a0, a1, a2] = true → AV.bdL [a0, a1, a2] → aw Try.prog n c4 (retA [(.tmp 6)] fun x h' => ∃ z, h' = h ++ z ∧ x.lt n = true ∧ R x) [a0, a1, a2, .any, .any, .any, .any, .any, .any, .any, .any, .any, .any, .any, .any, .any, .any, .any, .any, .any, .any, .any, .any, .any, .any, .any, .any, .any, .any, .any, .any, .any, .any, .any, .any, .any, .any, .any, .any, .any, .any, .any, .any, .any, .any, .any, .any, .any, .any, .any, .any, .any, .any, .any, .any, .any, .any, .any, .any, .any, .any, .any, .any, .any, .any] (h ++ [])) : ACalls Try.prog 4 [a0, a1, a2] h fun x h' => h' = h ∧ R x := ACalls.into k4 rfl hw
theorem w4 {a0 a1 a2 : AV} {h : AH} {res : AV} (hw : ∀ n, h.length = n → (∀ e ∈ h, e.lt n = true) → AV.ltL n [a0, a1, a2] = true → AV.bdL [a0, a1, a2] → aw Try.prog n c4 (retA [(.tmp 6)] fun x h' => ∃ z, h' = h ++ z ∧ x.lt n = true ∧ ∃ c, x = .ret c ∧ Wk c res) [a0, a1, a2, .any, .any, .any, .any, .any, .any, .any, .any, .any, .any, .any, .any, .any, .any, .any, .any, .any, .any, .any, .any, .any, .any, .any, .any, .any, .any, .any, .any, .any, .any, .any, .any, .any, .any, .any, .any, .any, .any, .any, .any, .any, .any, .any, .any, .any, .any, .any, .any, .any, .any, .any, .any, .any, .any, .any, .any, .any, .any, .any, .any, .any, .any] (h ++ [])) : ACalls Try.prog 4 [a0, a1, a2] h fun x h' => h' = h ∧ x = .ret res := ACalls.weak (ACalls.into k4 rfl hw)
theorem n4 {a0 a1 a2 : AV} {h : AH} {R : AE → AH → Prop} (hw : ∀ n, h.length = n → (∀ e ∈ h, e.lt n = true) → AV.ltL n [a0, a1, a2] = true → AV.bdL [a0, a1, a2] → aw Try.prog n c4 (retA [(.tmp 6)] R) [a0, a1, a2, .any, .any, .any, .any, .any, .any, .any, .any, .any, .any, .any, .any, .any, .any, .any, .any, .any, .any, .any, .any, .any, .any, .any, .any, .any, .any, .any, .any, .any, .any, .any, .any, .any, .any, .any, .any, .any, .any, .any, .any, .any, .any, .any, .any, .any, .any, .any, .any, .any, .any, .any, .any, .any, .any, .any, .any, .any, .any, .any, .any, .any, .any] (h ++ [])) : ACalls Try.prog 4 [a0, a1, a2] h R := ACalls.intoN k4 rfl hw
theorem j4 {a0 a1 a2 : AV} {h : AH} {R : AE → AH → Prop} (hw : ∀ n, h.length = n → (∀ e ∈ h, e.lt n = true) → AV.ltL n [a0, a1, a2] = true → AV.bdL [a0, a1, a2] → aw Try.prog n c4 (retA [(.tmp 6)] fun x h' => ∃ y z, h' = y ++ z ∧ y.length = n ∧ (∀ e ∈ y, e.lt n = true) ∧ x.lt n = true ∧ R x y) [a0, a1, a2, .any, .any, .any, .any, .any, .any, .any, .any, .any, .any, .any, .any, .any, .any, .any, .any, .any, .any, .any, .any, .any, .any, .any, .any, .any, .any, .any, .any, .any, .any, .any, .any, .any, .any, .any, .any, .any, .any, .any, .any, .any, .any, .any, .any, .any, .any, .any, .any, .any, .any, .any, .any, .any, .any, .any, .any, .any, .any, .any, .any, .any, .any] (h ++ [])) : ACalls Try.prog 4 [a0, a1, a2] h R := ACalls.intoG k4 rfl hw
theorem patV_bad {t : Tab} {p : Pat} (h : patE t p ≠ 0) : patV t p = noTab := by rw [patV, if_neg h]
theorem walk {t u : Tab} {p : Pat} (ht : okT t) (hu : okT u) (hp : okP p) : ACalls Try.prog 4 [tabA t, tabA u, patA p] [] fun x h' => h' = [] ∧ x = .ret (bv true) := by
  refine i4 ?_
  intro N hn hlt hlA hbd
  try simp only [AV.bdL, AV.bd, and_true, true_and] at hbd
  refine w_seq ?_
  refine w_reg ?_
  refine s_eff rfl rfl (e_box (cvl lk0 rfl) rfl (hl0 hn) ha0) pt3 ?_
  refine s_eff rfl rfl (e_box (cvl lk1 rfl) rfl (hl1 hn) ha1) pt4 ?_
  refine s_eff rfl rfl (e_box (cvl lk2 rfl) rfl (hl2 hn) ha2) pt5 ?_
  refine s_val rfl (v_mv lkb) pt6 ?_
  refine s_nil ?_
  refine n_seq ?_
  refine w_seq ?_
  refine w_reg ?_
  refine s_val rfl (v_loadpA lk3 (hga hn rfl) LawDeltaTells_tk0_4 rfl) pt16 ?_
  refine s_val rfl (v_loadpA lk4 (hga hn rfl) LawDeltaTells_tk0_4 rfl) pt17 ?_
  refine s_callp (mp1 lk16 (mp1 lk17 mp0)) (diff_a (t := t) (u := u) ht hu) pt18 ?_
  refine s_val rfl (v_mv lk18) pt15 ?_
  refine s_val rfl (v_ext lk15 gt0) pt19 ?_
  refine s_val rfl (v_ext lk15 gt1) pt20 ?_
  refine s_eff rfl rfl (e_new (hl3 hn) ha3) pt7 ?_
  refine s_eff rfl rfl (e_store lk7 (cvl lk19 rfl) (hga hn rfl) rfl (Nat.le_of_ble_eq_true rfl) rfl LawDeltaTells_sc0_6 (hs3 hn)) ptn ?_
  refine s_val rfl (v_mv lk20) pt8 ?_
  refine s_nil ?_
  refine n_seq ?_
  refine w_seq ?_
  refine w_reg ?_
  refine s_val rfl (v_loadpA lk3 (hga hn rfl) LawDeltaTells_tk0_4 rfl) pt22 ?_
  refine s_val rfl (v_loadpA lk5 (hga hn rfl) LawDeltaTells_tk0_6 rfl) pt23 ?_
  refine s_callp (mp1 lk22 (mp1 lk23 mp0)) (apply_a (t := t) (p := p) ht hp) pt24 ?_
  refine s_val rfl (v_mv lk24) pt21 ?_
  refine s_val rfl (v_ext lk21 gt0) pt25 ?_
  refine s_val rfl (v_ext lk21 gt1) pt26 ?_
  refine s_eff rfl rfl (e_new (hl4 hn) ha4) pt9 ?_
  refine s_eff rfl rfl (e_store lk9 (cvl lk25 rfl) (hga hn rfl) rfl (Nat.le_of_ble_eq_true rfl) rfl LawDeltaTells_sc0_4 (hs4 hn)) ptn ?_
  refine s_val rfl (v_mv lk26) pt10 ?_
  refine s_nil ?_
  refine n_seq ?_
  refine w_seq ?_
  refine w_reg ?_
  refine s_val rfl (v_loadpA lk3 (hga hn rfl) LawDeltaTells_tk0_4 rfl) pt27 ?_
  refine s_callp (mp1 lk27 mp0) (rcheck_a (l := t.2) ht.1 ht.2) pt28 ?_
  refine s_val rfl (v_mv lk28) pt11 ?_
  refine s_nil ?_
  refine n_seq ?_
  refine w_seq ?_
  refine w_reg ?_
  refine s_val rfl (v_mv lk11) pt29 ?_
  refine s_val rfl (v_mv lk29) pt12 ?_
  refine s_nil ?_
  refine n_seq ?_
  refine w_seq ?_
  refine w_reg ?_
  refine s_eff rfl rfl (e_new (hl5 hn) ha5) pt13 ?_
  refine s_nil ?_
  refine n_seq ?_
  refine w_seq ?_
  refine w_seq ?_
  refine w_reg ?_
  refine s_val rfl (v_mv lk12) pt30 ?_
  refine s_val rfl (v_eql lk30 lki) pt31 ?_
  refine s_nil ?_
  refine n_seq ?_
  first | refine w_cond lk31 (fun hc1 => ?_) (fun hc1 => ?_) | refine w_condB lk31 (fun hc1 => ?_) (fun hc1 => ?_)
  · skip
    have hc1' : checkT t = 0 := hc1
    have hd : diffE t u = checkT u := by rw [diffE, if_neg (by simpa using hc1')]
    have ha : appE t p = patE t p := by rw [appE, if_neg (by simpa using hc1')]
    have hv : appV t p = patV t p := by rw [appV, if_neg (by simpa using hc1')]
    refine w_reg ?_
    refine s_val rfl (v_loadpA lk3 (hga hn rfl) LawDeltaTells_tk0_4 rfl) pt33 ?_
    refine s_val rfl (v_loadpA lk5 (hga hn rfl) LawDeltaTells_tk0_6 rfl) pt34 ?_
    refine s_callp (mp1 lk33 (mp1 lk34 mp0)) (applyOf_a (t := t) (p := p) (checkT_len (t := t) hc1) ht hp) pt35 ?_
    refine s_val rfl (v_mv lk35) pt32 ?_
    refine s_val rfl (v_ext lk32 gt0) pt36 ?_
    refine s_val rfl (v_ext lk32 gt1) pt37 ?_
    refine s_eff rfl rfl (e_store lk13 (cvl lk36 rfl) (hga hn rfl) rfl (Nat.le_of_ble_eq_true rfl) rfl LawDeltaTells_sc0_4 (hs5 hn)) ptn ?_
    refine s_val rfl (v_mv lk37) pt12 ?_
    refine s_nil ?_
    refine n_seq ?_
    refine w_seq ?_
    refine w_seq ?_
    refine w_reg ?_
    refine s_val rfl (v_mv lk11) pt38 ?_
    refine s_val rfl (v_eql lk38 lki) pt39 ?_
    refine s_nil ?_
    refine n_seq ?_
    refine w_condK lk39 (by exact decide_eq_true hc1') ?_
    refine w_reg ?_
    refine s_val rfl (v_loadpA lk4 (hga hn rfl) LawDeltaTells_tk0_4 rfl) pt40 ?_
    refine s_callp (mp1 lk40 mp0) (rcheck_a (l := u.2) hu.1 hu.2) pt41 ?_
    refine s_val rfl (v_mv lk41) pt11 ?_
    refine s_nil ?_
    refine n_seq ?_
    refine w_seq ?_
    refine w_reg ?_
    refine s_eff rfl rfl (e_new (hl6 hn) ha6) pt14 ?_
    refine s_nil ?_
    refine n_seq ?_
    refine w_seq ?_
    refine w_seq ?_
    refine w_reg ?_
    refine s_val rfl (v_mv lk11) pt42 ?_
    refine s_val rfl (v_eql lk42 lki) pt43 ?_
    refine s_nil ?_
    refine n_seq ?_
    first | refine w_cond lk43 (fun hc3 => ?_) (fun hc3 => ?_) | refine w_condB lk43 (fun hc3 => ?_) (fun hc3 => ?_)
    · skip
      have hc3' : checkT u = 0 := hc3
      have hq : diffP t u = patOf t u := by rw [diffP, if_pos (by rw [hd]; exact hc3')]
      refine w_reg ?_
      refine s_val rfl (v_loadpA lk3 (hga hn rfl) LawDeltaTells_tk0_4 rfl) pt44 ?_
      refine s_val rfl (v_loadpA lk4 (hga hn rfl) LawDeltaTells_tk0_4 rfl) pt45 ?_
      refine s_callp (mp1 lk44 (mp1 lk45 mp0)) (diffOf_a (t := t) (u := u) (checkT_len hc1') (checkT_len hc3')) pt46 ?_
      refine s_eff rfl rfl (e_store lk14 (cvl lk46 rfl) (hga hn rfl) rfl (Nat.le_of_ble_eq_true rfl) rfl LawDeltaTells_sc0_6 (hs6 hn)) ptn ?_
      refine s_nil ?_
      refine n_seq ?_
      refine w_seq ?_
      refine w_reg ?_
      refine s_callp mp0 (begun_a) pt47 ?_
      refine s_val rfl (v_mv lk47) pt48 ?_
      refine s_do gt48 ?_
      refine s_val rfl (v_mv lk8) pt49 ?_
      refine s_do gt48 ?_
      refine s_val rfl (v_mv lk11) pt50 ?_
      refine s_do gt48 ?_
      refine s_val rfl (v_eql lk49 lk50) pt51 ?_
      refine s_val rfl (v_pickT lk48 lk51) pt52 ?_
      refine s_val rfl (v_mv lk52) pt53 ?_
      refine s_known gt53 (b := true) (by exact decide_eq_true hd) pt53 ?_
      refine s_do gt53 ?_
      refine s_val rfl (v_loadpA lk7 (hga hn rfl) LawDeltaTells_tk0_6 rfl) pt54 ?_
      refine s_do gt53 ?_
      refine s_val rfl (v_loadpA lk14 (hga hn rfl) LawDeltaTells_tk0_6 rfl) pt55 ?_
      refine s_do gt53 ?_
      refine s_callp (mp1 lk54 (mp1 lk55 mp0)) (ACalls.wk (WkL.refl _) <| sameP_a (p := diffP t u) (q := patOf t u)) pt56 ?_
      refine s_val rfl (v_pickT lk53 lk56) pt57 ?_
      refine s_val rfl (v_mv lk57) pt58 ?_
      refine s_known gt58 (b := true) (by exact decide_eq_true hq) pt58 ?_
      refine s_do gt58 ?_
      refine s_val rfl (v_loadpA lk9 (hga hn rfl) LawDeltaTells_tk0_4 rfl) pt59 ?_
      refine s_do gt58 ?_
      refine s_val rfl (v_mv lk10) pt60 ?_
      refine s_do gt58 ?_
      refine s_val rfl (v_mv lk12) pt61 ?_
      refine s_do gt58 ?_
      refine s_val rfl (v_loadpA lk13 (hga hn rfl) LawDeltaTells_tk0_4 rfl) pt62 ?_
      refine s_do gt58 ?_
      refine s_callp (mp1 lk59 (mp1 lk60 (mp1 lk61 (mp1 lk62 mp0)))) (tableIs_a (t := appV t p) (u := patV t p)) pt63 ?_
      refine s_val rfl (v_pickT lk58 lk63) pt64 ?_
      refine s_val rfl (v_mv lk64) pt6 ?_
      refine s_nil ?_
      refine n_seq ?_
      refine w_rets ?_
      refine w_ret (rs1 (rr_t gt6)) ?_
      refine rt (by first | rfl | (simp only [AV.lt, AV.ltL, Ent.lt, List.all_cons, List.all_nil, Bool.and_true, Bool.and_self, decide_true, chg_lt]; done) | (simp [AV.lt, AV.ltL, Ent.lt, chg_lt, *]; done) | (simp [AV.lt, AV.ltL, Ent.lt, chg_lt, *]; omega)) ?_
      refine bvx ?_; rw [ha, hv]; by_cases e : patE t p = 0 <;> simp [e, patV]
    · skip
      have hc3' : checkT u ≠ 0 := hc3
      have hq : diffP t u = noPat := diffP_bad (by rw [hd]; exact hc3')
      refine w_skip ?_
      refine n_seq ?_
      refine w_seq ?_
      refine w_reg ?_
      refine s_callp mp0 (begun_a) pt47 ?_
      refine s_val rfl (v_mv lk47) pt48 ?_
      refine s_do gt48 ?_
      refine s_val rfl (v_mv lk8) pt49 ?_
      refine s_do gt48 ?_
      refine s_val rfl (v_mv lk11) pt50 ?_
      refine s_do gt48 ?_
      refine s_val rfl (v_eql lk49 lk50) pt51 ?_
      refine s_val rfl (v_pickT lk48 lk51) pt52 ?_
      refine s_val rfl (v_mv lk52) pt53 ?_
      refine s_known gt53 (b := true) (by exact decide_eq_true hd) pt53 ?_
      refine s_do gt53 ?_
      refine s_val rfl (v_loadpA lk7 (hga hn rfl) LawDeltaTells_tk0_6 rfl) pt54 ?_
      refine s_do gt53 ?_
      refine s_val rfl (v_loadpA lk14 (hga hn rfl) LawDeltaTells_tk0_6 rfl) pt55 ?_
      refine s_do gt53 ?_
      refine s_callp (mp1 lk54 (mp1 lk55 mp0)) (ACalls.wk (wkw (Wk.refl _) (wkw (Wk.agg (wk1 rfl (wk1 rfl (wk1 rfl (wk1 rfl (wk1 rfl (wkw Wk.nilF wk0))))))) wk0)) <| sameP_a (p := diffP t u) (q := noPat) (f2 := false)) pt56 ?_
      refine s_val rfl (v_pickT lk53 lk56) pt57 ?_
      refine s_val rfl (v_mv lk57) pt58 ?_
      refine s_known gt58 (b := true) (by exact decide_eq_true hq) pt58 ?_
      refine s_do gt58 ?_
      refine s_val rfl (v_loadpA lk9 (hga hn rfl) LawDeltaTells_tk0_4 rfl) pt59 ?_
      refine s_do gt58 ?_
      refine s_val rfl (v_mv lk10) pt60 ?_
      refine s_do gt58 ?_
      refine s_val rfl (v_mv lk12) pt61 ?_
      refine s_do gt58 ?_
      refine s_val rfl (v_loadpA lk13 (hga hn rfl) LawDeltaTells_tk0_4 rfl) pt62 ?_
      refine s_do gt58 ?_
      refine s_callp (mp1 lk59 (mp1 lk60 (mp1 lk61 (mp1 lk62 mp0)))) (tableIs_a (t := appV t p) (u := patV t p)) pt63 ?_
      refine s_val rfl (v_pickT lk58 lk63) pt64 ?_
      refine s_val rfl (v_mv lk64) pt6 ?_
      refine s_nil ?_
      refine n_seq ?_
      refine w_rets ?_
      refine w_ret (rs1 (rr_t gt6)) ?_
      refine rt (by first | rfl | (simp only [AV.lt, AV.ltL, Ent.lt, List.all_cons, List.all_nil, Bool.and_true, Bool.and_self, decide_true, chg_lt]; done) | (simp [AV.lt, AV.ltL, Ent.lt, chg_lt, *]; done) | (simp [AV.lt, AV.ltL, Ent.lt, chg_lt, *]; omega)) ?_
      refine bvx ?_; rw [ha, hv]; by_cases e : patE t p = 0 <;> simp [e, patV]
  · skip
    have hc1' : checkT t ≠ 0 := hc1
    have hd : diffE t u = checkT t := by rw [diffE, if_pos hc1']
    have ha : appE t p = checkT t := by rw [appE, if_pos hc1']
    have hv : appV t p = noTab := by rw [appV, if_pos hc1']
    have hq : diffP t u = noPat := diffP_bad (by rw [hd]; exact hc1')
    refine w_skip ?_
    refine n_seq ?_
    refine w_seq ?_
    refine w_seq ?_
    refine w_reg ?_
    refine s_val rfl (v_mv lk11) pt38 ?_
    refine s_val rfl (v_eql lk38 lki) pt39 ?_
    refine s_nil ?_
    refine n_seq ?_
    refine w_condKF lk39 (by exact decide_eq_false hc1') ?_
    refine w_skip ?_
    refine n_seq ?_
    refine w_seq ?_
    refine w_reg ?_
    refine s_eff rfl rfl (e_new (hl6 hn) ha6) pt14 ?_
    refine s_nil ?_
    refine n_seq ?_
    refine w_seq ?_
    refine w_seq ?_
    refine w_reg ?_
    refine s_val rfl (v_mv lk11) pt42 ?_
    refine s_val rfl (v_eql lk42 lki) pt43 ?_
    refine s_nil ?_
    refine n_seq ?_
    refine w_condKF lk43 (by exact decide_eq_false hc1') ?_
    refine w_skip ?_
    refine n_seq ?_
    refine w_seq ?_
    refine w_reg ?_
    refine s_callp mp0 (begun_a) pt47 ?_
    refine s_val rfl (v_mv lk47) pt48 ?_
    refine s_do gt48 ?_
    refine s_val rfl (v_mv lk8) pt49 ?_
    refine s_do gt48 ?_
    refine s_val rfl (v_mv lk11) pt50 ?_
    refine s_do gt48 ?_
    refine s_val rfl (v_eql lk49 lk50) pt51 ?_
    refine s_val rfl (v_pickT lk48 lk51) pt52 ?_
    refine s_val rfl (v_mv lk52) pt53 ?_
    refine s_known gt53 (b := true) (by exact decide_eq_true hd) pt53 ?_
    refine s_do gt53 ?_
    refine s_val rfl (v_loadpA lk7 (hga hn rfl) LawDeltaTells_tk0_6 rfl) pt54 ?_
    refine s_do gt53 ?_
    refine s_val rfl (v_loadpA lk14 (hga hn rfl) LawDeltaTells_tk0_6 rfl) pt55 ?_
    refine s_do gt53 ?_
    refine s_callp (mp1 lk54 (mp1 lk55 mp0)) (ACalls.wk (wkw (Wk.refl _) (wkw (Wk.agg (wk1 rfl (wk1 rfl (wk1 rfl (wk1 rfl (wk1 rfl (wkw Wk.nilF wk0))))))) wk0)) <| sameP_a (p := diffP t u) (q := noPat) (f2 := false)) pt56 ?_
    refine s_val rfl (v_pickT lk53 lk56) pt57 ?_
    refine s_val rfl (v_mv lk57) pt58 ?_
    refine s_known gt58 (b := true) (by exact decide_eq_true hq) pt58 ?_
    refine s_do gt58 ?_
    refine s_val rfl (v_loadpA lk9 (hga hn rfl) LawDeltaTells_tk0_4 rfl) pt59 ?_
    refine s_do gt58 ?_
    refine s_val rfl (v_mv lk10) pt60 ?_
    refine s_do gt58 ?_
    refine s_val rfl (v_mv lk12) pt61 ?_
    refine s_do gt58 ?_
    refine s_val rfl (v_loadpA lk13 (hga hn rfl) LawDeltaTells_tk0_4 rfl) pt62 ?_
    refine s_do gt58 ?_
    refine s_callp (mp1 lk59 (mp1 lk60 (mp1 lk61 (mp1 lk62 mp0)))) (ACalls.wk (wkw (Wk.refl _) (wkw (Wk.refl _) (wkw (Wk.refl _) (wkw (Wk.agg (wk1 rfl (wk1 rfl (wk1 rfl (wkw Wk.nilF wk0))))) wk0)))) <| tableIs_a (t := appV t p) (u := noTab) (f2 := false)) pt63 ?_
    refine s_val rfl (v_pickT lk58 lk63) pt64 ?_
    refine s_val rfl (v_mv lk64) pt6 ?_
    refine s_nil ?_
    refine n_seq ?_
    refine w_rets ?_
    refine w_ret (rs1 (rr_t gt6)) ?_
    refine rt (by first | rfl | (simp only [AV.lt, AV.ltL, Ent.lt, List.all_cons, List.all_nil, Bool.and_true, Bool.and_self, decide_true, chg_lt]; done) | (simp [AV.lt, AV.ltL, Ent.lt, chg_lt, *]; done) | (simp [AV.lt, AV.ltL, Ent.lt, chg_lt, *]; omega)) ?_
    refine bvx ?_; rw [ha, hv]; simp

set_option maxRecDepth 100000 in
theorem lifted (os : Os) (started : os.Started) (H : Type) (enc : TypeId × Value → H) :
    ReturnsInHanded {} Try.checked os 4 .any (Rows.deltaTellsSpec.pre6 enc Try.prog Try.f4 Rows.deltaTellsRow.domain false) (Rows.deltaTellsSpec.post enc Try.prog Try.f4 false true false false) := by
  refine returnsInHanded_of_change (C := Try.checked) own started (by kernel_rfl) Try.func4
    (ChangeSpec.witness6 (enc := enc) (C := Try.checked) false ⟨#[], #[.agg #[.int .i64 0, .int .i64 0, .string ⟨#[]⟩, .slice none 0 0], .agg #[.int .i64 0, .int .i64 0, .string ⟨#[]⟩, .slice none 0 0], .agg #[.int .i64 0, .int .i64 0, .string ⟨#[]⟩, .int .i64 0, .int .i64 0, .slice none 0 0]], []⟩ 8 (by kernel_rfl) (by kernel_rfl) (by kernel_rfl) (by kernel_rfl)) ?_
  intro W base args ds gs before hval0 hW0 _ _
  have hval : ∀ (j : Nat) t v, Try.f4.params[j]? = some t → args[j]? = some v → Value.okWide Try.prog W .any base t v := hval0
  have hW := hW0
  obtain ⟨p, q, hA0, _, _, _, _⟩ := hW
  have hA : DataW.TrodAll enc Try.prog W 0 (fun _ => true) true Try.f4.params.toList args.toList ds p := hA0
  have hfin : ∀ W', Below W.heap.size W W' → (∃ d, ds = d) → Rows.deltaTellsSpec.fn H ds = { results := [.lit (.bool true)], args := ds } → Rows.deltaTellsSpec.post enc Try.prog Try.f4 false true false false W args (.bool true) W' :=
    fun W' hb _ hs => law_post laidOut (by kernel_rfl) rfl Try.underlying4 rfl hs hW0 hb
  rw [Try.params4] at hA hval
  obtain ⟨v0, vs0, d0, ds0, p0, q0, hargs, rfl, rfl, h0, r0⟩ := trodAll_cons hA
  obtain ⟨v1, vs1, d1, ds1, p1, q1, rfl, rfl, rfl, h1, r1⟩ := trodAll_cons r0
  obtain ⟨v2, vs2, d2, ds2, p2, q2, rfl, rfl, rfl, h2, r2⟩ := trodAll_cons r1
  obtain ⟨rfl, rfl, rfl⟩ := trodAll_nil r2
  obtain rfl : args = #[v0, v1, v2] := by cases args; simp_all
  obtain ⟨t, ht, k0⟩ := arg_struct TabD Try.underlying26 (by kernel_rfl) (hval 0 26 _ rfl rfl) h0
  obtain ⟨u, hu, k1⟩ := arg_struct TabD Try.underlying26 (by kernel_rfl) (hval 1 26 _ rfl rfl) h1
  obtain ⟨x, hx, k2⟩ := arg_struct PatD Try.underlying28 (by kernel_rfl) (hval 2 28 _ rfl rfl) h2
  refine (law_calls (walk (okT_of ht) (okT_of hu) (okP_of hx)) (repL1 k0 (repL1 k1 (repL1 k2 repL0)))).mono fun e W' ⟨he, hb⟩ => ?_
  subst he
  exact ⟨_, rfl, hfin W' hb ⟨_, rfl⟩ rfl⟩

theorem proved : Rows.DeltaTellsSaid :=
  OpenClaim.holds_of_wide 4 Try.f4 rfl rfl rfl rfl rfl rfl rfl ⟨rfl, rfl, rfl, rfl, rfl⟩ rfl rfl rfl rfl rfl (by kernel_rfl) Try.func4 (by kernel_rfl)
    (of_decide_eq_true (by kernel_rfl)) (by unfold Func.isWrapper; first | (rw [if_pos (by decide +kernel)]; kernel_rfl) | (rw [if_neg (by decide +kernel)]; exact ⟨rfl, rfl⟩))
    (fun os started H enc _ => lifted os started H enc)

end Go.Proofs.Ytmbebimingkfeaa.deltaTells
