/-
  Contract on plain data: what the laws of wire begin with. No condition.
-/
import Derived.Test.YtmbebimingkfeaaWParse
set_option linter.unusedVariables false
set_option linter.unusedSimpArgs false
set_option maxRecDepth 100000
namespace Go.Proofs.Ytmbebimingkfeaa
open Go.Ab Civ
section
theorem WBegun_sc0_4 {a0 a1 a2 a3 c0 c1 c2 c3 : AV} {l : List AV} : setCells (a0 :: a1 :: a2 :: a3 :: l) 0 [c0, c1, c2, c3] = c0 :: c1 :: c2 :: c3 :: l := rfl
theorem WBegun_tk0_4 {a0 a1 a2 a3 : AV} {l : List AV} : ((a0 :: a1 :: a2 :: a3 :: l).drop 0).take 4 = [a0, a1, a2, a3] := rfl
end
/-- datelinelaw.wireBegun -/
def c20 : AC := (.seq (.reg [⟨(some 0), none, (.mv (.const (.bool false)))⟩]) (.seq (.reg [⟨(some 6), none, (.call (.func 34) [])⟩, ⟨(some 7), none, (.call (.func 21) [(.tmp 6)])⟩, ⟨(some 5), none, (.mv (.tmp 7))⟩, ⟨(some 8), none, (.ext (.tmp 5) 0)⟩, ⟨(some 9), none, (.ext (.tmp 5) 1)⟩, ⟨(some 1), none, (.mv (.tmp 8))⟩, ⟨(some 2), none, (.mv (.tmp 9))⟩]) (.seq (.reg [⟨(some 11), none, (.mv (.tmp 1))⟩, ⟨(some 12), none, (.call (.func 22) [(.tmp 11)])⟩, ⟨(some 10), none, (.mv (.tmp 12))⟩, ⟨(some 13), none, (.ext (.tmp 10) 0)⟩, ⟨(some 14), none, (.ext (.tmp 10) 1)⟩, ⟨(some 3), none, (.new 26 4 [(.v (.int .i64 0)), (.v (.int .i64 0)), (.v (.string ⟨#[]⟩)), (.sl 0 0 true [])])⟩, ⟨none, none, (.store 4 (.tmp 3) (.tmp 13))⟩, ⟨(some 4), none, (.mv (.tmp 14))⟩]) (.seq (.drw [⟨(some 15), none, (.mv (.tmp 2))⟩, ⟨(some 16), none, (.bin .eql (.tmp 15) (.const (.int .i64 0)))⟩, ⟨(some 17), none, (.mv (.tmp 16))⟩, ⟨(some 18), (some (17, true)), (.mv (.tmp 4))⟩, ⟨(some 19), (some (17, true)), (.bin .eql (.tmp 18) (.const (.int .i64 0)))⟩, ⟨(some 20), none, (.pick (.tmp 17) (.tmp 19) (.const (.bool false)))⟩, ⟨(some 21), none, (.mv (.tmp 20))⟩, ⟨(some 22), (some (21, true)), (.load true 4 (.tmp 3))⟩, ⟨(some 23), (some (21, true)), (.call (.func 34) [])⟩, ⟨(some 24), (some (21, true)), (.call (.func 19) [(.tmp 22), (.tmp 23)])⟩, ⟨(some 25), none, (.pick (.tmp 21) (.tmp 24) (.const (.bool false)))⟩, ⟨(some 26), none, (.mv (.tmp 25))⟩, ⟨(some 27), (some (26, true)), (.mv (.tmp 1))⟩, ⟨(some 28), (some (26, true)), (.len true (.tmp 27))⟩, ⟨(some 29), (some (26, true)), (.bin .eql (.tmp 28) (.const (.int .i64 34)))⟩, ⟨(some 30), none, (.pick (.tmp 26) (.tmp 29) (.const (.bool false)))⟩, ⟨(some 31), none, (.mv (.tmp 30))⟩, ⟨(some 32), (some (31, true)), (.mv (.tmp 1))⟩, ⟨(some 33), (some (31, true)), (.sls (.tmp 32) none (some (.const (.int .i64 9))))⟩, ⟨(some 34), (some (31, true)), (.bin .eql (.tmp 33) (.const (.string ⟨#[2, 0, 176, 148, 1, 0, 0, 1, 65]⟩)))⟩, ⟨(some 35), none, (.pick (.tmp 31) (.tmp 34) (.const (.bool false)))⟩, ⟨(some 0), none, (.mv (.tmp 35))⟩] [] []) .ret))))
theorem k20 : compF Try.prog 20 = some ⟨c20, [(.tmp 0)], 36⟩ := by kernel_rfl
theorem i20 {h : AH} {R : AE → Prop} (hw : ∀ n, h.length = n → (∀ e ∈ h, e.lt n = true) → AV.ltL n [] = true → AV.bdL [] → aw Try.prog n c20 (retA [(.tmp 0)] fun x h' => ∃ z, h' = h ++ z ∧ x.lt n = true ∧ R x) [.any, .any, .any, .any, .any, .any, .any, .any, .any, .any, .any, .any, .any, .any, .any, .any, .any, .any, .any, .any, .any, .any, .any, .any, .any, .any, .any, .any, .any, .any, .any, .any, .any, .any, .any, .any] (h ++ [])) : ACalls Try.prog 20 [] h fun x h' => h' = h ∧ R x := ACalls.into k20 rfl hw
theorem w20 {h : AH} {res : AV} (hw : ∀ n, h.length = n → (∀ e ∈ h, e.lt n = true) → AV.ltL n [] = true → AV.bdL [] → aw Try.prog n c20 (retA [(.tmp 0)] fun x h' => ∃ z, h' = h ++ z ∧ x.lt n = true ∧ ∃ c, x = .ret c ∧ Wk c res) [.any, .any, .any, .any, .any, .any, .any, .any, .any, .any, .any, .any, .any, .any, .any, .any, .any, .any, .any, .any, .any, .any, .any, .any, .any, .any, .any, .any, .any, .any, .any, .any, .any, .any, .any, .any] (h ++ [])) : ACalls Try.prog 20 [] h fun x h' => h' = h ∧ x = .ret res := ACalls.weak (ACalls.into k20 rfl hw)
theorem n20 {h : AH} {R : AE → AH → Prop} (hw : ∀ n, h.length = n → (∀ e ∈ h, e.lt n = true) → AV.ltL n [] = true → AV.bdL [] → aw Try.prog n c20 (retA [(.tmp 0)] R) [.any, .any, .any, .any, .any, .any, .any, .any, .any, .any, .any, .any, .any, .any, .any, .any, .any, .any, .any, .any, .any, .any, .any, .any, .any, .any, .any, .any, .any, .any, .any, .any, .any, .any, .any, .any] (h ++ [])) : ACalls Try.prog 20 [] h R := ACalls.intoN k20 rfl hw
theorem j20 {h : AH} {R : AE → AH → Prop} (hw : ∀ n, h.length = n → (∀ e ∈ h, e.lt n = true) → AV.ltL n [] = true → AV.bdL [] → aw Try.prog n c20 (retA [(.tmp 0)] fun x h' => ∃ y z, h' = y ++ z ∧ y.length = n ∧ (∀ e ∈ y, e.lt n = true) ∧ x.lt n = true ∧ R x y) [.any, .any, .any, .any, .any, .any, .any, .any, .any, .any, .any, .any, .any, .any, .any, .any, .any, .any, .any, .any, .any, .any, .any, .any, .any, .any, .any, .any, .any, .any, .any, .any, .any, .any, .any, .any] (h ++ [])) : ACalls Try.prog 20 [] h R := ACalls.intoG k20 rfl hw
theorem small_ok : checkT smallT = 0 := by kernel_rfl
theorem enc_small {f1 : Bool} {h : AH} : ACalls Try.prog 21 [.agg [iv smallT.1.1, iv smallT.1.2.1, sv smallT.1.2.2, .sl smallT.2.length 4 f1 (rows chgC smallT.2)]] h fun x h' => h' = h ∧ x = .ret (.tup [sb (enc smallT), iv 0]) := by
  have := encode_a (t := smallT) (full := f1) (h := h) okT_small
  rw [if_pos small_ok, small_ok] at this
  exact this
theorem dec_small {h : AH} : ACalls Try.prog 22 [sb (enc smallT)] h fun x h' => h' = h ∧ x = .ret (.tup [tabA smallT, iv 0]) := by
  have := decode_a (S := enc smallT) (h := h)
  rw [dec_enc small_ok] at this
  exact this
theorem enc_small_len : (enc smallT).length = 34 := by kernel_rfl
theorem wbegun_a {h : AH} : ACalls Try.prog 20 [] h fun x h' => h' = h ∧ x = .ret (bv true) := by
  refine i20 ?_
  intro N hn hlt hlA hbd
  try simp only [AV.bdL, AV.bd, and_true, true_and] at hbd
  refine w_seq ?_
  refine w_reg ?_
  refine s_val rfl (v_mv lkb) pt0 ?_
  refine s_nil ?_
  refine n_seq ?_
  refine w_seq ?_
  refine w_reg ?_
  refine s_callp mp0 (small_a) pt6 ?_
  refine s_callp (mp1 lk6 mp0) (enc_small) pt7 ?_
  refine s_val rfl (v_mv lk7) pt5 ?_
  refine s_val rfl (v_ext lk5 gt0) pt8 ?_
  refine s_val rfl (v_ext lk5 gt1) pt9 ?_
  refine s_val rfl (v_mv lk8) pt1 ?_
  refine s_val rfl (v_mv lk9) pt2 ?_
  refine s_nil ?_
  refine n_seq ?_
  refine w_seq ?_
  refine w_reg ?_
  refine s_val rfl (v_mv lk1) pt11 ?_
  refine s_callp (mp1 lk11 mp0) (dec_small) pt12 ?_
  refine s_val rfl (v_mv lk12) pt10 ?_
  refine s_val rfl (v_ext lk10 gt0) pt13 ?_
  refine s_val rfl (v_ext lk10 gt1) pt14 ?_
  refine s_eff rfl rfl (e_new (hl0 hn) ha0) pt3 ?_
  refine s_eff rfl rfl (e_store lk3 (cvl lk13 rfl) (hga hn rfl) rfl (Nat.le_of_ble_eq_true rfl) rfl WBegun_sc0_4 (hs0 hn)) ptn ?_
  refine s_val rfl (v_mv lk14) pt4 ?_
  refine s_nil ?_
  refine n_seq ?_
  refine w_seq ?_
  refine w_drwE ?_
  refine d_val rfl (v_mv lk2) pt15 ?_
  refine d_val rfl (v_eql lk15 lki) pt16 ?_
  refine d_val rfl (v_mv lk16) pt17 ?_
  refine d_known gt17 (b := true) (by rfl) pt17 ?_
  refine d_do gt17 ?_
  refine d_val rfl (v_mv lk4) pt18 ?_
  refine d_do gt17 ?_
  refine d_val rfl (v_eql lk18 lki) pt19 ?_
  refine d_val rfl (v_pickT lk17 lk19) pt20 ?_
  refine d_val rfl (v_mv lk20) pt21 ?_
  refine d_known gt21 (b := true) (by rfl) pt21 ?_
  refine d_do gt21 ?_
  refine d_val rfl (v_loadpA lk3 (hga hn rfl) WBegun_tk0_4 rfl) pt22 ?_
  refine d_do gt21 ?_
  refine d_callp mp0 (fun hE hX => small_a) pt23 ?_
  refine d_do gt21 ?_
  refine d_callp (mp1 lk22 (mp1 lk23 mp0)) (fun hE hX => sameT_a (t := smallT) (u := smallT)) pt24 ?_
  refine d_val rfl (v_pickT lk21 lk24) pt25 ?_
  refine d_val rfl (v_mv lk25) pt26 ?_
  refine d_known gt26 (b := true) (by exact decide_eq_true rfl) pt26 ?_
  refine d_do gt26 ?_
  refine d_val rfl (v_mv lk1) pt27 ?_
  refine d_do gt26 ?_
  refine d_val rfl (v_lenS lk27) pt28 ?_
  refine d_do gt26 ?_
  skip
  refine d_val rfl (v_eql lk28 lki) pt29 ?_
  refine d_val rfl (v_pickT lk26 lk29) pt30 ?_
  refine d_val rfl (v_mv lk30) pt31 ?_
  refine d_known gt31 (b := true) (by kernel_rfl) pt31 ?_
  refine d_do gt31 ?_
  refine d_val rfl (v_mv lk1) pt32 ?_
  refine d_do gt31 ?_
  refine d_val rfl (v_slsS (a := 0) (b := 9) lk32 on_ (oi lki) rfl rfl (by omega) (by rw [enc_small_len]; omega)) pt33 ?_
  refine d_do gt31 ?_
  refine d_val rfl (v_eqlS lk33 lks) pt34 ?_
  refine d_val rfl (v_pickT lk31 lk34) pt35 ?_
  refine d_val rfl (v_mv lk35) pt0 ?_
  refine d_nil ?_
  refine e_nil ?_
  refine s_nil ?_
  refine n_seq ?_
  refine w_rets ?_
  refine w_ret (rs1 (rr_t gt0)) ?_
  refine rt (by first | rfl | (simp only [AV.lt, AV.ltL, Ent.lt, List.all_cons, List.all_nil, Bool.and_true, Bool.and_self, decide_true, chg_lt, u8_lt, loc_lt, in_lt, ltL_app]; done) | (simp [AV.lt, AV.ltL, Ent.lt, chg_lt, u8_lt, loc_lt, in_lt, ltL_app, *]; done) | (simp [AV.lt, AV.ltL, Ent.lt, chg_lt, u8_lt, loc_lt, in_lt, ltL_app, *]; omega)) ?_
  exact bvx (by kernel_rfl)
end Go.Proofs.Ytmbebimingkfeaa
