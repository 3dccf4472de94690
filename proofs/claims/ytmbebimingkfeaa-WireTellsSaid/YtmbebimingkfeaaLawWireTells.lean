/-
  WireTells answers true, whatever table and text it is handed, and leaves them as they were. No condition.
-/
import Derived.Test.YtmbebimingkfeaaWBegun
import Derived.Test.YtmbebimingkfeaaWRefC
set_option linter.unusedVariables false
set_option linter.unusedSimpArgs false
set_option maxRecDepth 100000
namespace Go.Proofs.Ytmbebimingkfeaa.wireTells
open Go.ChangeShapes Go.WideShapes Go.ChangeAt Go.RowKit Go.Ab Civ
section
theorem LawWireTells_tk0_4 {a0 a1 a2 a3 : AV} {l : List AV} : ((a0 :: a1 :: a2 :: a3 :: l).drop 0).take 4 = [a0, a1, a2, a3] := rfl
theorem LawWireTells_sc0_4 {a0 a1 a2 a3 c0 c1 c2 c3 : AV} {l : List AV} : setCells (a0 :: a1 :: a2 :: a3 :: l) 0 [c0, c1, c2, c3] = c0 :: c1 :: c2 :: c3 :: l := rfl
end
/-- datelinelaw.WireTells -/
def c7 : AC := (.seq (.reg [⟨(some 2), none, (.box 26 4 (.tmp 0))⟩, ⟨(some 4), none, (.mv (.const (.bool false)))⟩]) (.seq (.reg [⟨(some 14), none, (.load true 4 (.tmp 2))⟩, ⟨(some 15), none, (.call (.func 21) [(.tmp 14)])⟩, ⟨(some 13), none, (.mv (.tmp 15))⟩, ⟨(some 16), none, (.ext (.tmp 13) 0)⟩, ⟨(some 17), none, (.ext (.tmp 13) 1)⟩, ⟨(some 5), none, (.mv (.tmp 16))⟩, ⟨(some 6), none, (.mv (.tmp 17))⟩]) (.seq (.reg [⟨(some 19), none, (.mv (.tmp 1))⟩, ⟨(some 20), none, (.call (.func 22) [(.tmp 19)])⟩, ⟨(some 18), none, (.mv (.tmp 20))⟩, ⟨(some 21), none, (.ext (.tmp 18) 0)⟩, ⟨(some 22), none, (.ext (.tmp 18) 1)⟩, ⟨(some 7), none, (.new 26 4 [(.v (.int .i64 0)), (.v (.int .i64 0)), (.v (.string ⟨#[]⟩)), (.sl 0 0 true [])])⟩, ⟨none, none, (.store 4 (.tmp 7) (.tmp 21))⟩, ⟨(some 8), none, (.mv (.tmp 22))⟩]) (.seq (.reg [⟨(some 23), none, (.load true 4 (.tmp 2))⟩, ⟨(some 24), none, (.call (.func 14) [(.tmp 23)])⟩, ⟨(some 9), none, (.mv (.tmp 24))⟩, ⟨(some 10), none, (.mv (.const (.string ⟨#[]⟩)))⟩]) (.seq (.seq (.reg [⟨(some 25), none, (.mv (.tmp 9))⟩, ⟨(some 26), none, (.bin .eql (.tmp 25) (.const (.int .i64 0)))⟩]) (.cond (.tmp 26) (.reg [⟨(some 27), none, (.load true 4 (.tmp 2))⟩, ⟨(some 28), none, (.call (.func 23) [(.tmp 27)])⟩, ⟨(some 10), none, (.mv (.tmp 28))⟩]) .skip)) (.seq (.reg [⟨(some 30), none, (.mv (.tmp 1))⟩, ⟨(some 31), none, (.call (.func 24) [(.tmp 30)])⟩, ⟨(some 29), none, (.mv (.tmp 31))⟩, ⟨(some 32), none, (.ext (.tmp 29) 0)⟩, ⟨(some 33), none, (.ext (.tmp 29) 1)⟩, ⟨(some 11), none, (.new 26 4 [(.v (.int .i64 0)), (.v (.int .i64 0)), (.v (.string ⟨#[]⟩)), (.sl 0 0 true [])])⟩, ⟨none, none, (.store 4 (.tmp 11) (.tmp 32))⟩, ⟨(some 12), none, (.mv (.tmp 33))⟩]) (.seq (.reg [⟨(some 34), none, (.call (.func 20) [])⟩, ⟨(some 35), none, (.mv (.tmp 34))⟩, ⟨(some 36), (some (35, true)), (.mv (.tmp 6))⟩, ⟨(some 37), (some (35, true)), (.mv (.tmp 9))⟩, ⟨(some 38), (some (35, true)), (.bin .eql (.tmp 36) (.tmp 37))⟩, ⟨(some 39), none, (.pick (.tmp 35) (.tmp 38) (.const (.bool false)))⟩, ⟨(some 40), none, (.mv (.tmp 39))⟩, ⟨(some 41), (some (40, true)), (.mv (.tmp 5))⟩, ⟨(some 42), (some (40, true)), (.mv (.tmp 10))⟩, ⟨(some 43), (some (40, true)), (.bin .eql (.tmp 41) (.tmp 42))⟩, ⟨(some 44), none, (.pick (.tmp 40) (.tmp 43) (.const (.bool false)))⟩, ⟨(some 45), none, (.mv (.tmp 44))⟩, ⟨(some 46), (some (45, true)), (.load true 4 (.tmp 7))⟩, ⟨(some 47), (some (45, true)), (.mv (.tmp 8))⟩, ⟨(some 48), (some (45, true)), (.mv (.tmp 12))⟩, ⟨(some 49), (some (45, true)), (.load true 4 (.tmp 11))⟩, ⟨(some 50), (some (45, true)), (.call (.func 18) [(.tmp 46), (.tmp 47), (.tmp 48), (.tmp 49)])⟩, ⟨(some 51), none, (.pick (.tmp 45) (.tmp 50) (.const (.bool false)))⟩, ⟨(some 4), none, (.mv (.tmp 51))⟩]) .ret)))))))
theorem k7 : compF Try.prog 7 = some ⟨c7, [(.tmp 4)], 52⟩ := by kernel_rfl
theorem i7 {a0 a1 : AV} {h : AH} {R : AE → Prop} (hw : ∀ n, h.length = n → (∀ e ∈ h, e.lt n = true) → AV.ltL n [a0, a1] = true → AV.bdL [a0, a1] → aw Try.prog n c7 (retA [(.tmp 4)] fun x h' => ∃ z, h' = h ++ z ∧ x.lt n = true ∧ R x) [a0, a1, .any, .any, .any, .any, .any, .any, .any, .any, .any, .any, .any, .any, .any, .any, .any, .any, .any, .any, .any, .any, .any, .any, .any, .any, .any, .any, .any, .any, .any, .any, .any, .any, .any, .any, .any, .any, .any, .any, .any, .any, .any, .any, .any, .any, .any, .any, .any, .any, .any, .any] (h ++ [])) : ACalls Try.prog 7 [a0, a1] h fun x h' => h' = h ∧ R x := ACalls.into k7 rfl hw
theorem w7 {a0 a1 : AV} {h : AH} {res : AV} (hw : ∀ n, h.length = n → (∀ e ∈ h, e.lt n = true) → AV.ltL n [a0, a1] = true → AV.bdL [a0, a1] → aw Try.prog n c7 (retA [(.tmp 4)] fun x h' => ∃ z, h' = h ++ z ∧ x.lt n = true ∧ ∃ c, x = .ret c ∧ Wk c res) [a0, a1, .any, .any, .any, .any, .any, .any, .any, .any, .any, .any, .any, .any, .any, .any, .any, .any, .any, .any, .any, .any, .any, .any, .any, .any, .any, .any, .any, .any, .any, .any, .any, .any, .any, .any, .any, .any, .any, .any, .any, .any, .any, .any, .any, .any, .any, .any, .any, .any, .any, .any] (h ++ [])) : ACalls Try.prog 7 [a0, a1] h fun x h' => h' = h ∧ x = .ret res := ACalls.weak (ACalls.into k7 rfl hw)
theorem n7 {a0 a1 : AV} {h : AH} {R : AE → AH → Prop} (hw : ∀ n, h.length = n → (∀ e ∈ h, e.lt n = true) → AV.ltL n [a0, a1] = true → AV.bdL [a0, a1] → aw Try.prog n c7 (retA [(.tmp 4)] R) [a0, a1, .any, .any, .any, .any, .any, .any, .any, .any, .any, .any, .any, .any, .any, .any, .any, .any, .any, .any, .any, .any, .any, .any, .any, .any, .any, .any, .any, .any, .any, .any, .any, .any, .any, .any, .any, .any, .any, .any, .any, .any, .any, .any, .any, .any, .any, .any, .any, .any, .any, .any] (h ++ [])) : ACalls Try.prog 7 [a0, a1] h R := ACalls.intoN k7 rfl hw
theorem j7 {a0 a1 : AV} {h : AH} {R : AE → AH → Prop} (hw : ∀ n, h.length = n → (∀ e ∈ h, e.lt n = true) → AV.ltL n [a0, a1] = true → AV.bdL [a0, a1] → aw Try.prog n c7 (retA [(.tmp 4)] fun x h' => ∃ y z, h' = y ++ z ∧ y.length = n ∧ (∀ e ∈ y, e.lt n = true) ∧ x.lt n = true ∧ R x y) [a0, a1, .any, .any, .any, .any, .any, .any, .any, .any, .any, .any, .any, .any, .any, .any, .any, .any, .any, .any, .any, .any, .any, .any, .any, .any, .any, .any, .any, .any, .any, .any, .any, .any, .any, .any, .any, .any, .any, .any, .any, .any, .any, .any, .any, .any, .any, .any, .any, .any, .any, .any] (h ++ [])) : ACalls Try.prog 7 [a0, a1] h R := ACalls.intoG k7 rfl hw
theorem walk {t : Tab} {S : List UInt8} (ht : okT t) (hS : S.length ≤ 9223372036854775807) : ACalls Try.prog 7 [tabA t, sb S] [] fun x h' => h' = [] ∧ x = .ret (bv true) := by
  have hd := okT_dec S
  refine i7 ?_
  intro N hn hlt hlA hbd
  try simp only [AV.bdL, AV.bd, and_true, true_and] at hbd
  refine w_seq ?_
  refine w_reg ?_
  refine s_eff rfl rfl (e_box (cvl lk0 rfl) rfl (hl0 hn) ha0) pt2 ?_
  refine s_val rfl (v_mv lkb) pt4 ?_
  refine s_nil ?_
  refine n_seq ?_
  refine w_seq ?_
  refine w_reg ?_
  refine s_val rfl (v_loadpA lk2 (hga hn rfl) LawWireTells_tk0_4 rfl) pt14 ?_
  refine s_callp (mp1 lk14 mp0) (encode_a (t := t) ht) pt15 ?_
  refine s_val rfl (v_mv lk15) pt13 ?_
  refine s_val rfl (v_ext lk13 gt0) pt16 ?_
  refine s_val rfl (v_ext lk13 gt1) pt17 ?_
  refine s_val rfl (v_mv lk16) pt5 ?_
  refine s_val rfl (v_mv lk17) pt6 ?_
  refine s_nil ?_
  refine n_seq ?_
  refine w_seq ?_
  refine w_reg ?_
  refine s_val rfl (v_mv lk1) pt19 ?_
  refine s_callp (mp1 lk19 mp0) (decode_a (S := S)) pt20 ?_
  refine s_val rfl (v_mv lk20) pt18 ?_
  refine s_val rfl (v_ext lk18 gt0) pt21 ?_
  refine s_val rfl (v_ext lk18 gt1) pt22 ?_
  refine s_eff rfl rfl (e_new (hl1 hn) ha1) pt7 ?_
  refine s_eff rfl rfl (e_store lk7 (cvl lk21 rfl) (hga hn rfl) rfl (Nat.le_of_ble_eq_true rfl) rfl LawWireTells_sc0_4 (hs1 hn)) ptn ?_
  refine s_val rfl (v_mv lk22) pt8 ?_
  refine s_nil ?_
  refine n_seq ?_
  refine w_seq ?_
  refine w_reg ?_
  refine s_val rfl (v_loadpA lk2 (hga hn rfl) LawWireTells_tk0_4 rfl) pt23 ?_
  refine s_callp (mp1 lk23 mp0) (rcheck_a (l := t.2) ht.1 ht.2) pt24 ?_
  refine s_val rfl (v_mv lk24) pt9 ?_
  refine s_val rfl (v_mv lks) pt10 ?_
  refine s_nil ?_
  refine n_seq ?_
  refine w_seq ?_
  refine w_seq ?_
  refine w_reg ?_
  refine s_val rfl (v_mv lk9) pt25 ?_
  refine s_val rfl (v_eql lk25 lki) pt26 ?_
  refine s_nil ?_
  refine n_seq ?_
  first | refine w_cond lk26 (fun hc1 => ?_) (fun hc1 => ?_) | refine w_condB lk26 (fun hc1 => ?_) (fun hc1 => ?_)
  · skip
    have hc1' : checkT t = 0 := hc1
    refine w_reg ?_
    refine s_val rfl (v_loadpA lk2 (hga hn rfl) LawWireTells_tk0_4 rfl) pt27 ?_
    refine s_callp (mp1 lk27 mp0) (rencode_a (t := t) hc1') pt28 ?_
    refine s_val rfl (v_mv lk28) pt10 ?_
    refine s_nil ?_
    refine n_seq ?_
    refine w_seq ?_
    refine w_reg ?_
    refine s_val rfl (v_mv lk1) pt30 ?_
    refine s_callp (mp1 lk30 mp0) (rdecode_a (S := S) hS) pt31 ?_
    refine s_val rfl (v_mv lk31) pt29 ?_
    refine s_val rfl (v_ext lk29 gt0) pt32 ?_
    refine s_val rfl (v_ext lk29 gt1) pt33 ?_
    refine s_eff rfl rfl (e_new (hl2 hn) ha2) pt11 ?_
    refine s_eff rfl rfl (e_store lk11 (cvl lk32 rfl) (hga hn rfl) rfl (Nat.le_of_ble_eq_true rfl) rfl LawWireTells_sc0_4 (hs2 hn)) ptn ?_
    refine s_val rfl (v_mv lk33) pt12 ?_
    refine s_nil ?_
    refine n_seq ?_
    refine w_seq ?_
    refine w_reg ?_
    refine s_callp mp0 (wbegun_a) pt34 ?_
    refine s_val rfl (v_mv lk34) pt35 ?_
    refine s_known gt35 (b := true) (by rfl) pt35 ?_
    refine s_do gt35 ?_
    refine s_val rfl (v_mv lk6) pt36 ?_
    refine s_do gt35 ?_
    refine s_val rfl (v_mv lk9) pt37 ?_
    refine s_do gt35 ?_
    refine s_val rfl (v_eql lk36 lk37) pt38 ?_
    refine s_val rfl (v_pickT lk35 lk38) pt39 ?_
    refine s_val rfl (v_mv lk39) pt40 ?_
    refine s_known gt40 (b := true) (by exact decide_eq_true rfl) pt40 ?_
    refine s_do gt40 ?_
    refine s_val rfl (v_mv lk5) pt41 ?_
    refine s_do gt40 ?_
    refine s_val rfl (v_mv lk10) pt42 ?_
    refine s_do gt40 ?_
    refine s_val rfl (v_eqlS lk41 lk42) pt43 ?_
    refine s_val rfl (v_pickT lk40 lk43) pt44 ?_
    refine s_val rfl (v_mv lk44) pt45 ?_
    refine s_known gt45 (b := true) (by exact decide_eq_true (by rw [if_pos hc1'])) pt45 ?_
    refine s_do gt45 ?_
    refine s_val rfl (v_loadpA lk7 (hga hn rfl) LawWireTells_tk0_4 rfl) pt46 ?_
    refine s_do gt45 ?_
    refine s_val rfl (v_mv lk8) pt47 ?_
    refine s_do gt45 ?_
    refine s_val rfl (v_mv lk12) pt48 ?_
    refine s_do gt45 ?_
    refine s_val rfl (v_loadpA lk11 (hga hn rfl) LawWireTells_tk0_4 rfl) pt49 ?_
    refine s_do gt45 ?_
    refine s_callp (mp1 lk46 (mp1 lk47 (mp1 lk48 (mp1 lk49 mp0)))) (tableIs_a (t := (decV S).1) (u := (decV S).1)) pt50 ?_
    refine s_val rfl (v_pickT lk45 lk50) pt51 ?_
    refine s_val rfl (v_mv lk51) pt4 ?_
    refine s_nil ?_
    refine n_seq ?_
    refine w_rets ?_
    refine w_ret (rs1 (rr_t gt4)) ?_
    refine rt (by first | rfl | (simp only [AV.lt, AV.ltL, Ent.lt, List.all_cons, List.all_nil, Bool.and_true, Bool.and_self, decide_true, chg_lt, u8_lt, loc_lt, in_lt, ltL_app]; done) | (simp [AV.lt, AV.ltL, Ent.lt, chg_lt, u8_lt, loc_lt, in_lt, ltL_app, *]; done) | (simp [AV.lt, AV.ltL, Ent.lt, chg_lt, u8_lt, loc_lt, in_lt, ltL_app, *]; omega)) ?_
    refine bvx ?_
    by_cases e : (decV S).2 = 0
    · rw [if_neg (by rw [e]; simp)]; simp
    · have := decV_no e; rw [if_pos e, this]; simp
  · skip
    have hc1' : checkT t ≠ 0 := hc1
    refine w_skip ?_
    refine n_seq ?_
    refine w_seq ?_
    refine w_reg ?_
    refine s_val rfl (v_mv lk1) pt30 ?_
    refine s_callp (mp1 lk30 mp0) (rdecode_a (S := S) hS) pt31 ?_
    refine s_val rfl (v_mv lk31) pt29 ?_
    refine s_val rfl (v_ext lk29 gt0) pt32 ?_
    refine s_val rfl (v_ext lk29 gt1) pt33 ?_
    refine s_eff rfl rfl (e_new (hl2 hn) ha2) pt11 ?_
    refine s_eff rfl rfl (e_store lk11 (cvl lk32 rfl) (hga hn rfl) rfl (Nat.le_of_ble_eq_true rfl) rfl LawWireTells_sc0_4 (hs2 hn)) ptn ?_
    refine s_val rfl (v_mv lk33) pt12 ?_
    refine s_nil ?_
    refine n_seq ?_
    refine w_seq ?_
    refine w_reg ?_
    refine s_callp mp0 (wbegun_a) pt34 ?_
    refine s_val rfl (v_mv lk34) pt35 ?_
    refine s_known gt35 (b := true) (by rfl) pt35 ?_
    refine s_do gt35 ?_
    refine s_val rfl (v_mv lk6) pt36 ?_
    refine s_do gt35 ?_
    refine s_val rfl (v_mv lk9) pt37 ?_
    refine s_do gt35 ?_
    refine s_val rfl (v_eql lk36 lk37) pt38 ?_
    refine s_val rfl (v_pickT lk35 lk38) pt39 ?_
    refine s_val rfl (v_mv lk39) pt40 ?_
    refine s_known gt40 (b := true) (by exact decide_eq_true rfl) pt40 ?_
    refine s_do gt40 ?_
    refine s_val rfl (v_mv lk5) pt41 ?_
    refine s_do gt40 ?_
    refine s_val rfl (v_mv lk10) pt42 ?_
    refine s_do gt40 ?_
    refine s_val rfl (v_eqlS lk41 lk42) pt43 ?_
    refine s_val rfl (v_pickT lk40 lk43) pt44 ?_
    refine s_val rfl (v_mv lk44) pt45 ?_
    refine s_known gt45 (b := true) (by exact decide_eq_true (by rw [if_neg hc1'])) pt45 ?_
    refine s_do gt45 ?_
    refine s_val rfl (v_loadpA lk7 (hga hn rfl) LawWireTells_tk0_4 rfl) pt46 ?_
    refine s_do gt45 ?_
    refine s_val rfl (v_mv lk8) pt47 ?_
    refine s_do gt45 ?_
    refine s_val rfl (v_mv lk12) pt48 ?_
    refine s_do gt45 ?_
    refine s_val rfl (v_loadpA lk11 (hga hn rfl) LawWireTells_tk0_4 rfl) pt49 ?_
    refine s_do gt45 ?_
    refine s_callp (mp1 lk46 (mp1 lk47 (mp1 lk48 (mp1 lk49 mp0)))) (tableIs_a (t := (decV S).1) (u := (decV S).1)) pt50 ?_
    refine s_val rfl (v_pickT lk45 lk50) pt51 ?_
    refine s_val rfl (v_mv lk51) pt4 ?_
    refine s_nil ?_
    refine n_seq ?_
    refine w_rets ?_
    refine w_ret (rs1 (rr_t gt4)) ?_
    refine rt (by first | rfl | (simp only [AV.lt, AV.ltL, Ent.lt, List.all_cons, List.all_nil, Bool.and_true, Bool.and_self, decide_true, chg_lt, u8_lt, loc_lt, in_lt, ltL_app]; done) | (simp [AV.lt, AV.ltL, Ent.lt, chg_lt, u8_lt, loc_lt, in_lt, ltL_app, *]; done) | (simp [AV.lt, AV.ltL, Ent.lt, chg_lt, u8_lt, loc_lt, in_lt, ltL_app, *]; omega)) ?_
    refine bvx ?_
    by_cases e : (decV S).2 = 0
    · rw [if_neg (by rw [e]; simp)]; simp
    · have := decV_no e; rw [if_pos e, this]; simp

set_option maxRecDepth 100000 in
theorem lifted (os : Os) (started : os.Started) (H : Type) (enc : TypeId × Value → H) :
    ReturnsInHanded {} Try.checked os 7 .any (Rows.wireTellsSpec.pre6 enc Try.prog Try.f7 Rows.wireTellsRow.domain false) (Rows.wireTellsSpec.post enc Try.prog Try.f7 false true false false) := by
  refine returnsInHanded_of_change (C := Try.checked) own started (by kernel_rfl) Try.func7
    (ChangeSpec.witness6 (enc := enc) (C := Try.checked) false ⟨#[], #[.agg #[.int .i64 0, .int .i64 0, .string ⟨#[]⟩, .slice none 0 0], .string ⟨#[]⟩], []⟩ 8 (by kernel_rfl) (by kernel_rfl) (by kernel_rfl) (by kernel_rfl)) ?_
  intro W base args ds gs before hval0 hW0 _ _
  have hval : ∀ (j : Nat) t v, Try.f7.params[j]? = some t → args[j]? = some v → Value.okWide Try.prog W .any base t v := hval0
  have hW := hW0
  obtain ⟨p, q, hA0, _, _, _, _⟩ := hW
  have hA : DataW.TrodAll enc Try.prog W 0 (fun _ => true) true Try.f7.params.toList args.toList ds p := hA0
  have hfin : ∀ W', Below W.heap.size W W' → (∃ d, ds = d) → Rows.wireTellsSpec.fn H ds = { results := [.lit (.bool true)], args := ds } → Rows.wireTellsSpec.post enc Try.prog Try.f7 false true false false W args (.bool true) W' :=
    fun W' hb _ hs => law_post laidOut (by kernel_rfl) rfl Try.underlying4 rfl hs hW0 hb
  rw [Try.params7] at hA hval
  obtain ⟨v0, vs0, d0, ds0, p0, q0, hargs, rfl, rfl, h0, r0⟩ := trodAll_cons hA
  obtain ⟨v1, vs1, d1, ds1, p1, q1, rfl, rfl, rfl, h1, r1⟩ := trodAll_cons r0
  obtain ⟨rfl, rfl, rfl⟩ := trodAll_nil r1
  obtain rfl : args = #[v0, v1] := by cases args; simp_all
  obtain ⟨t, ht, k0⟩ := arg_struct TabD Try.underlying26 (by kernel_rfl) (hval 0 26 _ rfl rfl) h0
  obtain ⟨s, hs, k1⟩ := arg_str Try.underlying9 (hval 1 9 _ rfl rfl) h1
  rw [sv_sb] at k1
  refine (law_calls (walk (okT_of ht) (by simpa [maxLen] using hs)) (repL1 k0 (repL1 k1 repL0))).mono fun e W' ⟨he, hb⟩ => ?_
  subst he
  exact ⟨_, rfl, hfin W' hb ⟨_, rfl⟩ rfl⟩

theorem proved : Rows.WireTellsSaid :=
  OpenClaim.holds_of_wide 7 Try.f7 rfl rfl rfl rfl rfl rfl rfl ⟨rfl, rfl, rfl, rfl, rfl⟩ rfl rfl rfl rfl rfl (by kernel_rfl) Try.func7 (by kernel_rfl)
    (of_decide_eq_true (by kernel_rfl)) (by unfold Func.isWrapper; first | (rw [if_pos (by decide +kernel)]; kernel_rfl) | (rw [if_neg (by decide +kernel)]; exact ⟨rfl, rfl⟩))
    (fun os started H enc _ => lifted os started H enc)

end Go.Proofs.Ytmbebimingkfeaa.wireTells
