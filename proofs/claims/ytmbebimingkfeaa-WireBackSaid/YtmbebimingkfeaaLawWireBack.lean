/-
  WireBack answers true, whatever table and text it is handed, and leaves them as they were. No condition.
-/
import Derived.Test.YtmbebimingkfeaaWBegun
set_option linter.unusedVariables false
set_option linter.unusedSimpArgs false
set_option maxRecDepth 100000
namespace Go.Proofs.Ytmbebimingkfeaa.wireBack
open Go.ChangeShapes Go.WideShapes Go.ChangeAt Go.RowKit Go.Ab Civ
section
theorem LawWireBack_tk0_4 {a0 a1 a2 a3 : AV} {l : List AV} : ((a0 :: a1 :: a2 :: a3 :: l).drop 0).take 4 = [a0, a1, a2, a3] := rfl
theorem LawWireBack_sc0_4 {a0 a1 a2 a3 c0 c1 c2 c3 : AV} {l : List AV} : setCells (a0 :: a1 :: a2 :: a3 :: l) 0 [c0, c1, c2, c3] = c0 :: c1 :: c2 :: c3 :: l := rfl
end
/-- datelinelaw.WireBack -/
def c8 : AC := (.seq (.reg [⟨(some 2), none, (.box 26 4 (.tmp 0))⟩, ⟨(some 4), none, (.mv (.const (.bool false)))⟩]) (.seq (.seq (.reg [⟨(some 11), none, (.call (.func 20) [])⟩, ⟨(some 12), none, (.un .not (.tmp 11))⟩]) (.cond (.tmp 12) (.seq (.reg [⟨(some 4), none, (.mv (.const (.bool false)))⟩]) .ret) .skip)) (.seq (.reg [⟨(some 14), none, (.load true 4 (.tmp 2))⟩, ⟨(some 15), none, (.call (.func 21) [(.tmp 14)])⟩, ⟨(some 13), none, (.mv (.tmp 15))⟩, ⟨(some 16), none, (.ext (.tmp 13) 0)⟩, ⟨(some 17), none, (.ext (.tmp 13) 1)⟩, ⟨(some 5), none, (.mv (.tmp 16))⟩, ⟨(some 6), none, (.mv (.tmp 17))⟩]) (.seq (.seq (.reg [⟨(some 18), none, (.mv (.tmp 6))⟩, ⟨(some 19), none, (.bin .eql (.tmp 18) (.const (.int .i64 0)))⟩]) (.cond (.tmp 19) (.seq (.reg [⟨(some 21), none, (.mv (.tmp 5))⟩, ⟨(some 22), none, (.call (.func 22) [(.tmp 21)])⟩, ⟨(some 20), none, (.mv (.tmp 22))⟩, ⟨(some 23), none, (.ext (.tmp 20) 0)⟩, ⟨(some 24), none, (.ext (.tmp 20) 1)⟩, ⟨(some 7), none, (.new 26 4 [(.v (.int .i64 0)), (.v (.int .i64 0)), (.v (.string ⟨#[]⟩)), (.sl 0 0 true [])])⟩, ⟨none, none, (.store 4 (.tmp 7) (.tmp 23))⟩, ⟨(some 8), none, (.mv (.tmp 24))⟩]) (.seq (.reg [⟨(some 25), none, (.mv (.tmp 8))⟩, ⟨(some 26), none, (.bin .neq (.tmp 25) (.const (.int .i64 0)))⟩, ⟨(some 27), none, (.mv (.tmp 26))⟩, ⟨(some 28), (some (27, false)), (.load true 4 (.tmp 7))⟩, ⟨(some 29), (some (27, false)), (.load true 4 (.tmp 2))⟩, ⟨(some 30), (some (27, false)), (.call (.func 19) [(.tmp 28), (.tmp 29)])⟩, ⟨(some 31), (some (27, false)), (.un .not (.tmp 30))⟩, ⟨(some 32), none, (.pick (.tmp 27) (.const (.bool true)) (.tmp 31))⟩]) (.cond (.tmp 32) (.seq (.reg [⟨(some 4), none, (.mv (.const (.bool false)))⟩]) .ret) .skip))) .skip)) (.seq (.reg [⟨(some 34), none, (.mv (.tmp 1))⟩, ⟨(some 35), none, (.call (.func 22) [(.tmp 34)])⟩, ⟨(some 33), none, (.mv (.tmp 35))⟩, ⟨(some 36), none, (.ext (.tmp 33) 0)⟩, ⟨(some 37), none, (.ext (.tmp 33) 1)⟩, ⟨(some 9), none, (.new 26 4 [(.v (.int .i64 0)), (.v (.int .i64 0)), (.v (.string ⟨#[]⟩)), (.sl 0 0 true [])])⟩, ⟨none, none, (.store 4 (.tmp 9) (.tmp 36))⟩, ⟨(some 10), none, (.mv (.tmp 37))⟩]) (.seq (.seq (.reg [⟨(some 38), none, (.mv (.tmp 10))⟩, ⟨(some 39), none, (.bin .neq (.tmp 38) (.const (.int .i64 0)))⟩]) (.cond (.tmp 39) (.seq (.reg [⟨(some 40), none, (.fa 3 (.tmp 9))⟩, ⟨(some 41), none, (.load false 1 (.tmp 40))⟩, ⟨(some 42), none, (.len false (.tmp 41))⟩, ⟨(some 43), none, (.bin .eql (.tmp 42) (.const (.int .i64 0)))⟩, ⟨(some 4), none, (.mv (.tmp 43))⟩]) .ret) .skip)) (.seq (.reg [⟨(some 45), none, (.load true 4 (.tmp 9))⟩, ⟨(some 46), none, (.call (.func 21) [(.tmp 45)])⟩, ⟨(some 44), none, (.mv (.tmp 46))⟩, ⟨(some 47), none, (.ext (.tmp 44) 0)⟩, ⟨(some 48), none, (.ext (.tmp 44) 1)⟩, ⟨(some 5), none, (.mv (.tmp 47))⟩, ⟨(some 6), none, (.mv (.tmp 48))⟩]) (.seq (.reg [⟨(some 49), none, (.mv (.tmp 6))⟩, ⟨(some 50), none, (.bin .eql (.tmp 49) (.const (.int .i64 0)))⟩, ⟨(some 51), none, (.mv (.tmp 50))⟩, ⟨(some 52), (some (51, true)), (.mv (.tmp 5))⟩, ⟨(some 53), (some (51, true)), (.mv (.tmp 1))⟩, ⟨(some 54), (some (51, true)), (.bin .eql (.tmp 52) (.tmp 53))⟩, ⟨(some 55), none, (.pick (.tmp 51) (.tmp 54) (.const (.bool false)))⟩, ⟨(some 4), none, (.mv (.tmp 55))⟩]) .ret))))))))
theorem k8 : compF Try.prog 8 = some ⟨c8, [(.tmp 4)], 56⟩ := by kernel_rfl
theorem i8 {a0 a1 : AV} {h : AH} {R : AE → Prop} (hw : ∀ n, h.length = n → (∀ e ∈ h, e.lt n = true) → AV.ltL n [a0, a1] = true → AV.bdL [a0, a1] → aw Try.prog n c8 (retA [(.tmp 4)] fun x h' => ∃ z, h' = h ++ z ∧ x.lt n = true ∧ R x) [a0, a1, .any, .any, .any, .any, .any, .any, .any, .any, .any, .any, .any, .any, .any, .any, .any, .any, .any, .any, .any, .any, .any, .any, .any, .any, .any, .any, .any, .any, .any, .any, .any, .any, .any, .any, .any, .any, .any, .any, .any, .any, .any, .any, .any, .any, .any, .any, .any, .any, .any, .any, .any, .any, .any, .any] (h ++ [])) : ACalls Try.prog 8 [a0, a1] h fun x h' => h' = h ∧ R x := ACalls.into k8 rfl hw
theorem w8 {a0 a1 : AV} {h : AH} {res : AV} (hw : ∀ n, h.length = n → (∀ e ∈ h, e.lt n = true) → AV.ltL n [a0, a1] = true → AV.bdL [a0, a1] → aw Try.prog n c8 (retA [(.tmp 4)] fun x h' => ∃ z, h' = h ++ z ∧ x.lt n = true ∧ ∃ c, x = .ret c ∧ Wk c res) [a0, a1, .any, .any, .any, .any, .any, .any, .any, .any, .any, .any, .any, .any, .any, .any, .any, .any, .any, .any, .any, .any, .any, .any, .any, .any, .any, .any, .any, .any, .any, .any, .any, .any, .any, .any, .any, .any, .any, .any, .any, .any, .any, .any, .any, .any, .any, .any, .any, .any, .any, .any, .any, .any, .any, .any] (h ++ [])) : ACalls Try.prog 8 [a0, a1] h fun x h' => h' = h ∧ x = .ret res := ACalls.weak (ACalls.into k8 rfl hw)
theorem n8 {a0 a1 : AV} {h : AH} {R : AE → AH → Prop} (hw : ∀ n, h.length = n → (∀ e ∈ h, e.lt n = true) → AV.ltL n [a0, a1] = true → AV.bdL [a0, a1] → aw Try.prog n c8 (retA [(.tmp 4)] R) [a0, a1, .any, .any, .any, .any, .any, .any, .any, .any, .any, .any, .any, .any, .any, .any, .any, .any, .any, .any, .any, .any, .any, .any, .any, .any, .any, .any, .any, .any, .any, .any, .any, .any, .any, .any, .any, .any, .any, .any, .any, .any, .any, .any, .any, .any, .any, .any, .any, .any, .any, .any, .any, .any, .any, .any] (h ++ [])) : ACalls Try.prog 8 [a0, a1] h R := ACalls.intoN k8 rfl hw
theorem j8 {a0 a1 : AV} {h : AH} {R : AE → AH → Prop} (hw : ∀ n, h.length = n → (∀ e ∈ h, e.lt n = true) → AV.ltL n [a0, a1] = true → AV.bdL [a0, a1] → aw Try.prog n c8 (retA [(.tmp 4)] fun x h' => ∃ y z, h' = y ++ z ∧ y.length = n ∧ (∀ e ∈ y, e.lt n = true) ∧ x.lt n = true ∧ R x y) [a0, a1, .any, .any, .any, .any, .any, .any, .any, .any, .any, .any, .any, .any, .any, .any, .any, .any, .any, .any, .any, .any, .any, .any, .any, .any, .any, .any, .any, .any, .any, .any, .any, .any, .any, .any, .any, .any, .any, .any, .any, .any, .any, .any, .any, .any, .any, .any, .any, .any, .any, .any, .any, .any, .any, .any] (h ++ [])) : ACalls Try.prog 8 [a0, a1] h R := ACalls.intoG k8 rfl hw
theorem dec_of {t : Tab} {h : AH} (ht : checkT t = 0) : ACalls Try.prog 22 [sv (if checkT t = 0 then ⟨(enc t).toArray⟩ else ⟨#[]⟩)] h fun x h' => h' = h ∧ x = .ret (.tup [tabA t, iv 0]) := by
  have := decode_a (S := enc t) (h := h)
  rw [dec_enc ht] at this
  rw [if_pos ht]
  exact this
theorem walk {t : Tab} {S : List UInt8} (ht : okT t) : ACalls Try.prog 8 [tabA t, sb S] [] fun x h' => h' = [] ∧ x = .ret (bv true) := by
  have hd := okT_dec S
  refine i8 ?_
  intro N hn hlt hlA hbd
  try simp only [AV.bdL, AV.bd, and_true, true_and] at hbd
  refine w_seq ?_
  refine w_reg ?_
  refine s_eff rfl rfl (e_box (cvl lk0 rfl) rfl (hl0 hn) ha0) pt2 ?_
  refine s_val rfl (v_mv lkb) pt4 ?_
  refine s_nil ?_
  refine n_seq ?_
  refine w_seq ?_
  refine w_seq ?_
  refine w_reg ?_
  refine s_callp mp0 (wbegun_a) pt11 ?_
  refine s_val rfl ((by first | exact v_not lk11 | exact v_notB lk11)) pt12 ?_
  refine s_nil ?_
  refine n_seq ?_
  refine w_condKF lk12 (by rfl) ?_
  refine w_skip ?_
  refine n_seq ?_
  refine w_seq ?_
  refine w_reg ?_
  refine s_val rfl (v_loadpA lk2 (hga hn rfl) LawWireBack_tk0_4 rfl) pt14 ?_
  refine s_callp (mp1 lk14 mp0) (encode_a (t := t) ht) pt15 ?_
  refine s_val rfl (v_mv lk15) pt13 ?_
  refine s_val rfl (v_ext lk13 gt0) pt16 ?_
  refine s_val rfl (v_ext lk13 gt1) pt17 ?_
  refine s_val rfl (v_mv lk16) pt5 ?_
  refine s_val rfl (v_mv lk17) pt6 ?_
  refine s_nil ?_
  refine n_seq ?_
  refine w_seq ?_
  refine w_seq ?_
  refine w_reg ?_
  refine s_val rfl (v_mv lk6) pt18 ?_
  refine s_val rfl (v_eql lk18 lki) pt19 ?_
  refine s_nil ?_
  refine n_seq ?_
  first | refine w_cond lk19 (fun hc2 => ?_) (fun hc2 => ?_) | refine w_condB lk19 (fun hc2 => ?_) (fun hc2 => ?_)
  · skip
    refine w_seq ?_
    refine w_reg ?_
    refine s_val rfl (v_mv lk5) pt21 ?_
    refine s_callp (mp1 lk21 mp0) (dec_of (t := t) hc2) pt22 ?_
    refine s_val rfl (v_mv lk22) pt20 ?_
    refine s_val rfl (v_ext lk20 gt0) pt23 ?_
    refine s_val rfl (v_ext lk20 gt1) pt24 ?_
    refine s_eff rfl rfl (e_new (hl1 hn) ha1) pt7 ?_
    refine s_eff rfl rfl (e_store lk7 (cvl lk23 rfl) (hga hn rfl) rfl (Nat.le_of_ble_eq_true rfl) rfl LawWireBack_sc0_4 (hs1 hn)) ptn ?_
    refine s_val rfl (v_mv lk24) pt8 ?_
    refine s_nil ?_
    refine n_seq ?_
    refine w_seq ?_
    refine w_reg ?_
    refine s_val rfl (v_mv lk8) pt25 ?_
    refine s_val rfl (v_neq lk25 lki) pt26 ?_
    refine s_val rfl (v_mv lk26) pt27 ?_
    refine s_known gt27 (b := false) (by rfl) pt27 ?_
    refine s_do gt27 ?_
    refine s_val rfl (v_loadpA lk7 (hga hn rfl) LawWireBack_tk0_4 rfl) pt28 ?_
    refine s_do gt27 ?_
    refine s_val rfl (v_loadpA lk2 (hga hn rfl) LawWireBack_tk0_4 rfl) pt29 ?_
    refine s_do gt27 ?_
    refine s_callp (mp1 lk28 (mp1 lk29 mp0)) (sameT_a (t := t) (u := t)) pt30 ?_
    refine s_do gt27 ?_
    refine s_val rfl (v_notB lk30) pt31 ?_
    refine s_val rfl (v_pickF lk27 lk31) pt32 ?_
    refine s_nil ?_
    refine n_seq ?_
    refine w_condKF lk32 (by simp) ?_
    refine w_skip ?_
    refine n_seq ?_
    refine w_seq ?_
    refine w_reg ?_
    refine s_val rfl (v_mv lk1) pt34 ?_
    refine s_callp (mp1 lk34 mp0) (decode_a (S := S)) pt35 ?_
    refine s_val rfl (v_mv lk35) pt33 ?_
    refine s_val rfl (v_ext lk33 gt0) pt36 ?_
    refine s_val rfl (v_ext lk33 gt1) pt37 ?_
    refine s_eff rfl rfl (e_new (hl2 hn) ha2) pt9 ?_
    refine s_eff rfl rfl (e_store lk9 (cvl lk36 rfl) (hga hn rfl) rfl (Nat.le_of_ble_eq_true rfl) rfl LawWireBack_sc0_4 (hs2 hn)) ptn ?_
    refine s_val rfl (v_mv lk37) pt10 ?_
    refine s_nil ?_
    refine n_seq ?_
    refine w_seq ?_
    refine w_seq ?_
    refine w_reg ?_
    refine s_val rfl (v_mv lk10) pt38 ?_
    refine s_val rfl (v_neq lk38 lki) pt39 ?_
    refine s_nil ?_
    refine n_seq ?_
    first | refine w_cond lk39 (fun hc4 => ?_) (fun hc4 => ?_) | refine w_condB lk39 (fun hc4 => ?_) (fun hc4 => ?_)
    · skip
      have hno := decV_no hc4
      refine w_seq ?_
      refine w_reg ?_
      refine s_val rfl (v_fap0 lk9) pt40 ?_
      refine s_val rfl (v_loadp lk40 (hga hn rfl) gt3) pt41 ?_
      refine s_val rfl (v_lenL lk41) pt42 ?_
      refine s_val rfl (v_eql lk42 lki) pt43 ?_
      refine s_val rfl (v_mv lk43) pt4 ?_
      refine s_nil ?_
      refine n_seq ?_
      refine w_rets ?_
      refine r_thn ?_
      refine w_ret (rs1 (rr_t gt4)) ?_
      refine rt (by first | rfl | (simp only [AV.lt, AV.ltL, Ent.lt, List.all_cons, List.all_nil, Bool.and_true, Bool.and_self, decide_true, chg_lt, u8_lt, loc_lt, in_lt, ltL_app]; done) | (simp [AV.lt, AV.ltL, Ent.lt, chg_lt, u8_lt, loc_lt, in_lt, ltL_app, *]; done) | (simp [AV.lt, AV.ltL, Ent.lt, chg_lt, u8_lt, loc_lt, in_lt, ltL_app, *]; omega)) ?_
      refine bvx ?_; rw [hno]; rfl
    · skip
      have hok := decV_ok (Decidable.of_not_not hc4)
      refine w_skip ?_
      refine n_seq ?_
      refine w_seq ?_
      refine w_reg ?_
      refine s_val rfl (v_loadpA lk9 (hga hn rfl) LawWireBack_tk0_4 rfl) pt45 ?_
      refine s_callp (mp1 lk45 mp0) (encode_a (t := (decV S).1) hd) pt46 ?_
      refine s_val rfl (v_mv lk46) pt44 ?_
      refine s_val rfl (v_ext lk44 gt0) pt47 ?_
      refine s_val rfl (v_ext lk44 gt1) pt48 ?_
      refine s_val rfl (v_mv lk47) pt5 ?_
      refine s_val rfl (v_mv lk48) pt6 ?_
      refine s_nil ?_
      refine n_seq ?_
      refine w_seq ?_
      refine w_reg ?_
      refine s_val rfl (v_mv lk6) pt49 ?_
      refine s_val rfl (v_eql lk49 lki) pt50 ?_
      refine s_val rfl (v_mv lk50) pt51 ?_
      refine s_known gt51 (b := true) (by exact decide_eq_true hok.1) pt51 ?_
      refine s_do gt51 ?_
      refine s_val rfl (v_mv lk5) pt52 ?_
      refine s_do gt51 ?_
      refine s_val rfl (v_mv lk1) pt53 ?_
      refine s_do gt51 ?_
      refine s_val rfl (v_eqlS lk52 lk53) pt54 ?_
      refine s_val rfl (v_pickT lk51 lk54) pt55 ?_
      refine s_val rfl (v_mv lk55) pt4 ?_
      refine s_nil ?_
      refine n_seq ?_
      refine w_rets ?_
      refine w_ret (rs1 (rr_t gt4)) ?_
      refine rt (by first | rfl | (simp only [AV.lt, AV.ltL, Ent.lt, List.all_cons, List.all_nil, Bool.and_true, Bool.and_self, decide_true, chg_lt, u8_lt, loc_lt, in_lt, ltL_app]; done) | (simp [AV.lt, AV.ltL, Ent.lt, chg_lt, u8_lt, loc_lt, in_lt, ltL_app, *]; done) | (simp [AV.lt, AV.ltL, Ent.lt, chg_lt, u8_lt, loc_lt, in_lt, ltL_app, *]; omega)) ?_
      refine bvx ?_; rw [if_pos hok.1, hok.2]; simp
  · skip
    refine w_skip ?_
    refine n_seq ?_
    refine w_seq ?_
    refine w_reg ?_
    refine s_val rfl (v_mv lk1) pt34 ?_
    refine s_callp (mp1 lk34 mp0) (decode_a (S := S)) pt35 ?_
    refine s_val rfl (v_mv lk35) pt33 ?_
    refine s_val rfl (v_ext lk33 gt0) pt36 ?_
    refine s_val rfl (v_ext lk33 gt1) pt37 ?_
    refine s_eff rfl rfl (e_new (hl1 hn) ha1) pt9 ?_
    refine s_eff rfl rfl (e_store lk9 (cvl lk36 rfl) (hga hn rfl) rfl (Nat.le_of_ble_eq_true rfl) rfl LawWireBack_sc0_4 (hs1 hn)) ptn ?_
    refine s_val rfl (v_mv lk37) pt10 ?_
    refine s_nil ?_
    refine n_seq ?_
    refine w_seq ?_
    refine w_seq ?_
    refine w_reg ?_
    refine s_val rfl (v_mv lk10) pt38 ?_
    refine s_val rfl (v_neq lk38 lki) pt39 ?_
    refine s_nil ?_
    refine n_seq ?_
    first | refine w_cond lk39 (fun hc4 => ?_) (fun hc4 => ?_) | refine w_condB lk39 (fun hc4 => ?_) (fun hc4 => ?_)
    · skip
      have hno := decV_no hc4
      refine w_seq ?_
      refine w_reg ?_
      refine s_val rfl (v_fap0 lk9) pt40 ?_
      refine s_val rfl (v_loadp lk40 (hga hn rfl) gt3) pt41 ?_
      refine s_val rfl (v_lenL lk41) pt42 ?_
      refine s_val rfl (v_eql lk42 lki) pt43 ?_
      refine s_val rfl (v_mv lk43) pt4 ?_
      refine s_nil ?_
      refine n_seq ?_
      refine w_rets ?_
      refine r_thn ?_
      refine w_ret (rs1 (rr_t gt4)) ?_
      refine rt (by first | rfl | (simp only [AV.lt, AV.ltL, Ent.lt, List.all_cons, List.all_nil, Bool.and_true, Bool.and_self, decide_true, chg_lt, u8_lt, loc_lt, in_lt, ltL_app]; done) | (simp [AV.lt, AV.ltL, Ent.lt, chg_lt, u8_lt, loc_lt, in_lt, ltL_app, *]; done) | (simp [AV.lt, AV.ltL, Ent.lt, chg_lt, u8_lt, loc_lt, in_lt, ltL_app, *]; omega)) ?_
      refine bvx ?_; rw [hno]; rfl
    · skip
      have hok := decV_ok (Decidable.of_not_not hc4)
      refine w_skip ?_
      refine n_seq ?_
      refine w_seq ?_
      refine w_reg ?_
      refine s_val rfl (v_loadpA lk9 (hga hn rfl) LawWireBack_tk0_4 rfl) pt45 ?_
      refine s_callp (mp1 lk45 mp0) (encode_a (t := (decV S).1) hd) pt46 ?_
      refine s_val rfl (v_mv lk46) pt44 ?_
      refine s_val rfl (v_ext lk44 gt0) pt47 ?_
      refine s_val rfl (v_ext lk44 gt1) pt48 ?_
      refine s_val rfl (v_mv lk47) pt5 ?_
      refine s_val rfl (v_mv lk48) pt6 ?_
      refine s_nil ?_
      refine n_seq ?_
      refine w_seq ?_
      refine w_reg ?_
      refine s_val rfl (v_mv lk6) pt49 ?_
      refine s_val rfl (v_eql lk49 lki) pt50 ?_
      refine s_val rfl (v_mv lk50) pt51 ?_
      refine s_known gt51 (b := true) (by exact decide_eq_true hok.1) pt51 ?_
      refine s_do gt51 ?_
      refine s_val rfl (v_mv lk5) pt52 ?_
      refine s_do gt51 ?_
      refine s_val rfl (v_mv lk1) pt53 ?_
      refine s_do gt51 ?_
      refine s_val rfl (v_eqlS lk52 lk53) pt54 ?_
      refine s_val rfl (v_pickT lk51 lk54) pt55 ?_
      refine s_val rfl (v_mv lk55) pt4 ?_
      refine s_nil ?_
      refine n_seq ?_
      refine w_rets ?_
      refine w_ret (rs1 (rr_t gt4)) ?_
      refine rt (by first | rfl | (simp only [AV.lt, AV.ltL, Ent.lt, List.all_cons, List.all_nil, Bool.and_true, Bool.and_self, decide_true, chg_lt, u8_lt, loc_lt, in_lt, ltL_app]; done) | (simp [AV.lt, AV.ltL, Ent.lt, chg_lt, u8_lt, loc_lt, in_lt, ltL_app, *]; done) | (simp [AV.lt, AV.ltL, Ent.lt, chg_lt, u8_lt, loc_lt, in_lt, ltL_app, *]; omega)) ?_
      refine bvx ?_; rw [if_pos hok.1, hok.2]; simp

set_option maxRecDepth 100000 in
theorem lifted (os : Os) (started : os.Started) (H : Type) (enc : TypeId × Value → H) :
    ReturnsInHanded {} Try.checked os 8 .any (Rows.wireBackSpec.pre6 enc Try.prog Try.f8 Rows.wireBackRow.domain false) (Rows.wireBackSpec.post enc Try.prog Try.f8 false true false false) := by
  refine returnsInHanded_of_change (C := Try.checked) own started (by kernel_rfl) Try.func8
    (ChangeSpec.witness6 (enc := enc) (C := Try.checked) false ⟨#[], #[.agg #[.int .i64 0, .int .i64 0, .string ⟨#[]⟩, .slice none 0 0], .string ⟨#[]⟩], []⟩ 8 (by kernel_rfl) (by kernel_rfl) (by kernel_rfl) (by kernel_rfl)) ?_
  intro W base args ds gs before hval0 hW0 _ _
  have hval : ∀ (j : Nat) t v, Try.f8.params[j]? = some t → args[j]? = some v → Value.okWide Try.prog W .any base t v := hval0
  have hW := hW0
  obtain ⟨p, q, hA0, _, _, _, _⟩ := hW
  have hA : DataW.TrodAll enc Try.prog W 0 (fun _ => true) true Try.f8.params.toList args.toList ds p := hA0
  have hfin : ∀ W', Below W.heap.size W W' → (∃ d, ds = d) → Rows.wireBackSpec.fn H ds = { results := [.lit (.bool true)], args := ds } → Rows.wireBackSpec.post enc Try.prog Try.f8 false true false false W args (.bool true) W' :=
    fun W' hb _ hs => law_post laidOut (by kernel_rfl) rfl Try.underlying4 rfl hs hW0 hb
  rw [Try.params8] at hA hval
  obtain ⟨v0, vs0, d0, ds0, p0, q0, hargs, rfl, rfl, h0, r0⟩ := trodAll_cons hA
  obtain ⟨v1, vs1, d1, ds1, p1, q1, rfl, rfl, rfl, h1, r1⟩ := trodAll_cons r0
  obtain ⟨rfl, rfl, rfl⟩ := trodAll_nil r1
  obtain rfl : args = #[v0, v1] := by cases args; simp_all
  obtain ⟨t, ht, k0⟩ := arg_struct TabD Try.underlying26 (by kernel_rfl) (hval 0 26 _ rfl rfl) h0
  obtain ⟨s, hs, k1⟩ := arg_str Try.underlying9 (hval 1 9 _ rfl rfl) h1
  rw [show sv s = sb s.data.toList from by simp] at k1
  refine (law_calls (walk (okT_of ht)) (repL1 k0 (repL1 k1 repL0))).mono fun e W' ⟨he, hb⟩ => ?_
  subst he
  exact ⟨_, rfl, hfin W' hb ⟨_, rfl⟩ rfl⟩

theorem proved : Rows.WireBackSaid :=
  OpenClaim.holds_of_wide 8 Try.f8 rfl rfl rfl rfl rfl rfl rfl ⟨rfl, rfl, rfl, rfl, rfl⟩ rfl rfl rfl rfl rfl (by kernel_rfl) Try.func8 (by kernel_rfl)
    (of_decide_eq_true (by kernel_rfl)) (by unfold Func.isWrapper; first | (rw [if_pos (by decide +kernel)]; kernel_rfl) | (rw [if_neg (by decide +kernel)]; exact ⟨rfl, rfl⟩))
    (fun os started H enc _ => lifted os started H enc)

end Go.Proofs.Ytmbebimingkfeaa.wireBack
