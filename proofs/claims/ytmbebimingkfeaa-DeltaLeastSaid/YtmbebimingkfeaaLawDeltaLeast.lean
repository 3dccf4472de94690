/-
  DeltaLeast answers true, whatever table and patch it is handed, and leaves them as they were. No condition.
-/
import Derived.Test.YtmbebimingkfeaaADelP
set_option linter.unusedVariables false
set_option linter.unusedSimpArgs false
set_option maxRecDepth 100000
namespace Go.Proofs.Ytmbebimingkfeaa.deltaLeast
open Go.ChangeShapes Go.WideShapes Go.ChangeAt Go.RowKit Go.Ab Civ
section
theorem LawDeltaLeast_tk0_4 {a0 a1 a2 a3 : AV} {l : List AV} : ((a0 :: a1 :: a2 :: a3 :: l).drop 0).take 4 = [a0, a1, a2, a3] := rfl
theorem LawDeltaLeast_tk0_6 {a0 a1 a2 a3 a4 a5 : AV} {l : List AV} : ((a0 :: a1 :: a2 :: a3 :: a4 :: a5 :: l).drop 0).take 6 = [a0, a1, a2, a3, a4, a5] := rfl
theorem LawDeltaLeast_sc0_4 {a0 a1 a2 a3 c0 c1 c2 c3 : AV} {l : List AV} : setCells (a0 :: a1 :: a2 :: a3 :: l) 0 [c0, c1, c2, c3] = c0 :: c1 :: c2 :: c3 :: l := rfl
theorem LawDeltaLeast_sc0_6 {a0 a1 a2 a3 a4 a5 c0 c1 c2 c3 c4 c5 : AV} {l : List AV} : setCells (a0 :: a1 :: a2 :: a3 :: a4 :: a5 :: l) 0 [c0, c1, c2, c3, c4, c5] = c0 :: c1 :: c2 :: c3 :: c4 :: c5 :: l := rfl
theorem LawDeltaLeast_tk0_3 {a0 a1 a2 : AV} {l : List AV} : ((a0 :: a1 :: a2 :: l).drop 0).take 3 = [a0, a1, a2] := rfl
theorem LawDeltaLeast_eq_iis {a0 b0 : Int} {a1 b1 : Int} {a2 b2 : ByteArray} : eqCells [.int, .int, .str] [iv a0, iv a1, sv a2] [iv b0, iv b1, sv b2] = some (decide (a0 = b0 ∧ a1 = b1 ∧ a2 = b2)) := by
  simp only [eqCells, eqLeaf, if_true, bytes_beq, Option.some.injEq]
  simp only [Bool.decide_and, Bool.and_true]
  try (congr 1 <;> simp)
  try rfl
end
/-- datelinelaw.DeltaLeast -/
def c3 : AC := (.seq (.reg [⟨(some 2), none, (.box 26 4 (.tmp 0))⟩, ⟨(some 3), none, (.box 28 6 (.tmp 1))⟩, ⟨(some 4), none, (.mv (.const (.bool false)))⟩]) (.seq (.seq (.reg [⟨(some 8), none, (.call (.func 11) [])⟩, ⟨(some 9), none, (.un .not (.tmp 8))⟩]) (.cond (.tmp 9) (.seq (.reg [⟨(some 4), none, (.mv (.const (.bool false)))⟩]) .ret) .skip)) (.seq (.reg [⟨(some 11), none, (.load true 4 (.tmp 2))⟩, ⟨(some 12), none, (.load true 6 (.tmp 3))⟩, ⟨(some 13), none, (.call (.func 12) [(.tmp 11), (.tmp 12)])⟩, ⟨(some 10), none, (.mv (.tmp 13))⟩, ⟨(some 14), none, (.ext (.tmp 10) 0)⟩, ⟨(some 15), none, (.ext (.tmp 10) 1)⟩, ⟨(some 5), none, (.new 26 4 [(.v (.int .i64 0)), (.v (.int .i64 0)), (.v (.string ⟨#[]⟩)), (.sl 0 0 true [])])⟩, ⟨none, none, (.store 4 (.tmp 5) (.tmp 14))⟩, ⟨(some 6), none, (.mv (.tmp 15))⟩]) (.seq (.seq (.reg [⟨(some 16), none, (.mv (.tmp 6))⟩, ⟨(some 17), none, (.bin .neq (.tmp 16) (.const (.int .i64 0)))⟩]) (.cond (.tmp 17) (.seq (.reg [⟨(some 18), none, (.fa 3 (.tmp 5))⟩, ⟨(some 19), none, (.load false 1 (.tmp 18))⟩, ⟨(some 20), none, (.len false (.tmp 19))⟩, ⟨(some 21), none, (.bin .eql (.tmp 20) (.const (.int .i64 0)))⟩, ⟨(some 4), none, (.mv (.tmp 21))⟩]) .ret) .skip)) (.seq (.reg [⟨(some 23), none, (.load true 4 (.tmp 2))⟩, ⟨(some 24), none, (.load true 4 (.tmp 5))⟩, ⟨(some 25), none, (.call (.func 13) [(.tmp 23), (.tmp 24)])⟩, ⟨(some 22), none, (.mv (.tmp 25))⟩, ⟨(some 26), none, (.ext (.tmp 22) 0)⟩, ⟨(some 27), none, (.ext (.tmp 22) 1)⟩, ⟨(some 7), none, (.new 28 6 [(.v (.int .i64 0)), (.v (.int .i64 0)), (.v (.string ⟨#[]⟩)), (.v (.int .i64 0)), (.v (.int .i64 0)), (.sl 0 0 true [])])⟩, ⟨none, none, (.store 6 (.tmp 7) (.tmp 26))⟩, ⟨(some 6), none, (.mv (.tmp 27))⟩]) (.seq (.reg [⟨(some 28), none, (.mv (.tmp 6))⟩, ⟨(some 29), none, (.bin .eql (.tmp 28) (.const (.int .i64 0)))⟩, ⟨(some 30), none, (.mv (.tmp 29))⟩, ⟨(some 31), (some (30, true)), (.fa 5 (.tmp 7))⟩, ⟨(some 32), (some (30, true)), (.load false 1 (.tmp 31))⟩, ⟨(some 33), (some (30, true)), (.len false (.tmp 32))⟩, ⟨(some 34), (some (30, true)), (.fa 5 (.tmp 3))⟩, ⟨(some 35), (some (30, true)), (.load false 1 (.tmp 34))⟩, ⟨(some 36), (some (30, true)), (.len false (.tmp 35))⟩, ⟨(some 37), (some (30, true)), (.bin .leq (.tmp 33) (.tmp 36))⟩, ⟨(some 38), none, (.pick (.tmp 30) (.tmp 37) (.const (.bool false)))⟩, ⟨(some 39), none, (.mv (.tmp 38))⟩, ⟨(some 40), (some (39, true)), (.fa 0 (.tmp 7))⟩, ⟨(some 41), (some (39, true)), (.load true 3 (.tmp 40))⟩, ⟨(some 42), (some (39, true)), (.fa 0 (.tmp 3))⟩, ⟨(some 43), (some (39, true)), (.load true 3 (.tmp 42))⟩, ⟨(some 44), (some (39, true)), (.eqs false [.int, .int, .str] (.tmp 41) (.tmp 43))⟩, ⟨(some 45), none, (.pick (.tmp 39) (.tmp 44) (.const (.bool false)))⟩, ⟨(some 4), none, (.mv (.tmp 45))⟩]) .ret))))))
theorem k3 : compF Try.prog 3 = some ⟨c3, [(.tmp 4)], 46⟩ := by kernel_rfl
theorem i3 {a0 a1 : AV} {h : AH} {R : AE → Prop} (hw : ∀ n, h.length = n → (∀ e ∈ h, e.lt n = true) → AV.ltL n [a0, a1] = true → AV.bdL [a0, a1] → aw Try.prog n c3 (retA [(.tmp 4)] fun x h' => ∃ z, h' = h ++ z ∧ x.lt n = true ∧ R x) [a0, a1, .any, .any, .any, .any, .any, .any, .any, .any, .any, .any, .any, .any, .any, .any, .any, .any, .any, .any, .any, .any, .any, .any, .any, .any, .any, .any, .any, .any, .any, .any, .any, .any, .any, .any, .any, .any, .any, .any, .any, .any, .any, .any, .any, .any] (h ++ [])) : ACalls Try.prog 3 [a0, a1] h fun x h' => h' = h ∧ R x := ACalls.into k3 rfl hw
theorem w3 {a0 a1 : AV} {h : AH} {res : AV} (hw : ∀ n, h.length = n → (∀ e ∈ h, e.lt n = true) → AV.ltL n [a0, a1] = true → AV.bdL [a0, a1] → aw Try.prog n c3 (retA [(.tmp 4)] fun x h' => ∃ z, h' = h ++ z ∧ x.lt n = true ∧ ∃ c, x = .ret c ∧ Wk c res) [a0, a1, .any, .any, .any, .any, .any, .any, .any, .any, .any, .any, .any, .any, .any, .any, .any, .any, .any, .any, .any, .any, .any, .any, .any, .any, .any, .any, .any, .any, .any, .any, .any, .any, .any, .any, .any, .any, .any, .any, .any, .any, .any, .any, .any, .any] (h ++ [])) : ACalls Try.prog 3 [a0, a1] h fun x h' => h' = h ∧ x = .ret res := ACalls.weak (ACalls.into k3 rfl hw)
theorem n3 {a0 a1 : AV} {h : AH} {R : AE → AH → Prop} (hw : ∀ n, h.length = n → (∀ e ∈ h, e.lt n = true) → AV.ltL n [a0, a1] = true → AV.bdL [a0, a1] → aw Try.prog n c3 (retA [(.tmp 4)] R) [a0, a1, .any, .any, .any, .any, .any, .any, .any, .any, .any, .any, .any, .any, .any, .any, .any, .any, .any, .any, .any, .any, .any, .any, .any, .any, .any, .any, .any, .any, .any, .any, .any, .any, .any, .any, .any, .any, .any, .any, .any, .any, .any, .any, .any, .any] (h ++ [])) : ACalls Try.prog 3 [a0, a1] h R := ACalls.intoN k3 rfl hw
theorem j3 {a0 a1 : AV} {h : AH} {R : AE → AH → Prop} (hw : ∀ n, h.length = n → (∀ e ∈ h, e.lt n = true) → AV.ltL n [a0, a1] = true → AV.bdL [a0, a1] → aw Try.prog n c3 (retA [(.tmp 4)] fun x h' => ∃ y z, h' = y ++ z ∧ y.length = n ∧ (∀ e ∈ y, e.lt n = true) ∧ x.lt n = true ∧ R x y) [a0, a1, .any, .any, .any, .any, .any, .any, .any, .any, .any, .any, .any, .any, .any, .any, .any, .any, .any, .any, .any, .any, .any, .any, .any, .any, .any, .any, .any, .any, .any, .any, .any, .any, .any, .any, .any, .any, .any, .any, .any, .any, .any, .any, .any, .any] (h ++ [])) : ACalls Try.prog 3 [a0, a1] h R := ACalls.intoG k3 rfl hw
theorem walk {t : Tab} {p : Pat} (ht : okT t) (hp : okP p) : ACalls Try.prog 3 [tabA t, patA p] [] fun x h' => h' = [] ∧ x = .ret (bv true) := by
  refine i3 ?_
  intro N hn hlt hlA hbd
  try simp only [AV.bdL, AV.bd, and_true, true_and] at hbd
  refine w_seq ?_
  refine w_reg ?_
  refine s_eff rfl rfl (e_box (cvl lk0 rfl) rfl (hl0 hn) ha0) pt2 ?_
  refine s_eff rfl rfl (e_box (cvl lk1 rfl) rfl (hl1 hn) ha1) pt3 ?_
  refine s_val rfl (v_mv lkb) pt4 ?_
  refine s_nil ?_
  refine n_seq ?_
  refine w_seq ?_
  refine w_seq ?_
  refine w_reg ?_
  refine s_callp mp0 (begun_a) pt8 ?_
  refine s_val rfl (v_notB lk8) pt9 ?_
  refine s_nil ?_
  refine n_seq ?_
  refine w_condKF lk9 (by rfl) ?_
  refine w_skip ?_
  refine n_seq ?_
  refine w_seq ?_
  refine w_reg ?_
  refine s_val rfl (v_loadpA lk2 (hga hn rfl) LawDeltaLeast_tk0_4 rfl) pt11 ?_
  refine s_val rfl (v_loadpA lk3 (hga hn rfl) LawDeltaLeast_tk0_6 rfl) pt12 ?_
  refine s_callp (mp1 lk11 (mp1 lk12 mp0)) (apply_a ht hp) pt13 ?_
  refine s_val rfl (v_mv lk13) pt10 ?_
  refine s_val rfl (v_ext lk10 gt0) pt14 ?_
  refine s_val rfl (v_ext lk10 gt1) pt15 ?_
  refine s_eff rfl rfl (e_new (hl2 hn) ha2) pt5 ?_
  refine s_eff rfl rfl (e_store lk5 (cvl lk14 rfl) (hga hn rfl) rfl (Nat.le_of_ble_eq_true rfl) rfl LawDeltaLeast_sc0_4 (hs2 hn)) ptn ?_
  refine s_val rfl (v_mv lk15) pt6 ?_
  refine s_nil ?_
  refine n_seq ?_
  refine w_seq ?_
  refine w_seq ?_
  refine w_reg ?_
  refine s_val rfl (v_mv lk6) pt16 ?_
  refine s_val rfl (v_neq lk16 lki) pt17 ?_
  refine s_nil ?_
  refine n_seq ?_
  first | refine w_cond lk17 (fun hc2 => ?_) (fun hc2 => ?_) | refine w_condB lk17 (fun hc2 => ?_) (fun hc2 => ?_)
  · skip
    refine w_seq ?_
    refine w_reg ?_
    refine s_val rfl (v_fap0 lk5) pt18 ?_
    refine s_val rfl (v_loadp lk18 (hga hn rfl) gt3) pt19 ?_
    refine s_val rfl (v_lenL lk19) pt20 ?_
    refine s_val rfl (v_eql lk20 lki) pt21 ?_
    refine s_val rfl (v_mv lk21) pt4 ?_
    refine s_nil ?_
    refine n_seq ?_
    refine w_rets ?_
    refine r_thn ?_
    refine w_ret (rs1 (rr_t gt4)) ?_
    refine rt (by first | rfl | (simp only [AV.lt, AV.ltL, Ent.lt, List.all_cons, List.all_nil, Bool.and_true, Bool.and_self, decide_true, chg_lt]; done) | (simp [AV.lt, AV.ltL, Ent.lt, chg_lt, *]; done) | (simp [AV.lt, AV.ltL, Ent.lt, chg_lt, *]; omega)) ?_
    refine bvx (decide_eq_true ?_); rw [app_bad hc2]; rfl
  · skip
    refine w_skip ?_
    refine n_seq ?_
    have hL := least_plain (t := t) (p := p) (Decidable.of_not_not hc2)
    refine w_seq ?_
    refine w_reg ?_
    refine s_val rfl (v_loadpA lk2 (hga hn rfl) LawDeltaLeast_tk0_4 rfl) pt23 ?_
    refine s_val rfl (v_loadpA lk5 (hga hn rfl) LawDeltaLeast_tk0_4 rfl) pt24 ?_
    refine s_callp (mp1 lk23 (mp1 lk24 mp0)) (diff_a (u := appV t p) ht (okT_app ht hp)) pt25 ?_
    refine s_val rfl (v_mv lk25) pt22 ?_
    refine s_val rfl (v_ext lk22 gt0) pt26 ?_
    refine s_val rfl (v_ext lk22 gt1) pt27 ?_
    refine s_eff rfl rfl (e_new (hl3 hn) ha3) pt7 ?_
    refine s_eff rfl rfl (e_store lk7 (cvl lk26 rfl) (hga hn rfl) rfl (Nat.le_of_ble_eq_true rfl) rfl LawDeltaLeast_sc0_6 (hs3 hn)) ptn ?_
    refine s_val rfl (v_mv lk27) pt6 ?_
    refine s_nil ?_
    refine n_seq ?_
    refine w_seq ?_
    refine w_reg ?_
    refine s_val rfl (v_mv lk6) pt28 ?_
    refine s_val rfl (v_eql lk28 lki) pt29 ?_
    refine s_val rfl (v_mv lk29) pt30 ?_
    refine s_known gt30 (b := true) (by exact decide_eq_true hL.1) pt30 ?_
    refine s_do gt30 ?_
    refine s_val rfl (v_fap0 lk7) pt31 ?_
    refine s_do gt30 ?_
    refine s_val rfl (v_loadp lk31 (hga hn rfl) gt5) pt32 ?_
    refine s_do gt30 ?_
    refine s_val rfl (v_lenL lk32) pt33 ?_
    refine s_do gt30 ?_
    refine s_val rfl (v_fap0 lk3) pt34 ?_
    refine s_do gt30 ?_
    refine s_val rfl (v_loadp lk34 (hga hn rfl) gt5) pt35 ?_
    refine s_do gt30 ?_
    refine s_val rfl (v_lenL lk35) pt36 ?_
    refine s_do gt30 ?_
    refine s_val rfl (v_leq lk33 lk36) pt37 ?_
    refine s_val rfl (v_pickT lk30 lk37) pt38 ?_
    refine s_val rfl (v_mv lk38) pt39 ?_
    refine s_known gt39 (b := true) (by exact decide_eq_true (by have := hL.2.1; omega)) pt39 ?_
    refine s_do gt39 ?_
    refine s_val rfl (v_fap0 lk7) pt40 ?_
    refine s_do gt39 ?_
    refine s_val rfl (v_loadpA lk40 (hga hn rfl) LawDeltaLeast_tk0_3 rfl) pt41 ?_
    refine s_do gt39 ?_
    refine s_val rfl (v_fap0 lk3) pt42 ?_
    refine s_do gt39 ?_
    refine s_val rfl (v_loadpA lk42 (hga hn rfl) LawDeltaLeast_tk0_3 rfl) pt43 ?_
    refine s_do gt39 ?_
    refine s_val rfl (v_eqsT lk41 lk43 LawDeltaLeast_eq_iis) pt44 ?_
    refine s_val rfl (v_pickT lk39 lk44) pt45 ?_
    refine s_val rfl (v_mv lk45) pt4 ?_
    refine s_nil ?_
    refine n_seq ?_
    refine w_rets ?_
    refine w_ret (rs1 (rr_t gt4)) ?_
    refine rt (by first | rfl | (simp only [AV.lt, AV.ltL, Ent.lt, List.all_cons, List.all_nil, Bool.and_true, Bool.and_self, decide_true, chg_lt]; done) | (simp [AV.lt, AV.ltL, Ent.lt, chg_lt, *]; done) | (simp [AV.lt, AV.ltL, Ent.lt, chg_lt, *]; omega)) ?_
    refine bvx (decide_eq_true ?_); rw [hL.2.2]; exact ⟨rfl, rfl, rfl⟩
set_option maxRecDepth 100000 in
theorem lifted (os : Os) (started : os.Started) (H : Type) (enc : TypeId × Value → H) :
    ReturnsInHanded {} Try.checked os 3 .any (Rows.deltaLeastSpec.pre6 enc Try.prog Try.f3 Rows.deltaLeastRow.domain false) (Rows.deltaLeastSpec.post enc Try.prog Try.f3 false true false false) := by
  refine returnsInHanded_of_change (C := Try.checked) own started (by kernel_rfl) Try.func3
    (ChangeSpec.witness6 (enc := enc) (C := Try.checked) false ⟨#[], #[.agg #[.int .i64 0, .int .i64 0, .string ⟨#[]⟩, .slice none 0 0], .agg #[.int .i64 0, .int .i64 0, .string ⟨#[]⟩, .int .i64 0, .int .i64 0, .slice none 0 0]], []⟩ 8 (by kernel_rfl) (by kernel_rfl) (by kernel_rfl) (by kernel_rfl)) ?_
  intro W base args ds gs before hval0 hW0 _ _
  have hval : ∀ (j : Nat) t v, Try.f3.params[j]? = some t → args[j]? = some v → Value.okWide Try.prog W .any base t v := hval0
  have hW := hW0
  obtain ⟨p, q, hA0, _, _, _, _⟩ := hW
  have hA : DataW.TrodAll enc Try.prog W 0 (fun _ => true) true Try.f3.params.toList args.toList ds p := hA0
  have hfin : ∀ W', Below W.heap.size W W' → (∃ d, ds = d) → Rows.deltaLeastSpec.fn H ds = { results := [.lit (.bool true)], args := ds } → Rows.deltaLeastSpec.post enc Try.prog Try.f3 false true false false W args (.bool true) W' :=
    fun W' hb _ hs => law_post laidOut (by kernel_rfl) rfl Try.underlying4 rfl hs hW0 hb
  rw [Try.params3] at hA hval
  obtain ⟨v0, vs0, d0, ds0, p0, q0, hargs, rfl, rfl, h0, r0⟩ := trodAll_cons hA
  obtain ⟨v1, vs1, d1, ds1, p1, q1, rfl, rfl, rfl, h1, r1⟩ := trodAll_cons r0
  obtain ⟨rfl, rfl, rfl⟩ := trodAll_nil r1
  obtain rfl : args = #[v0, v1] := by cases args; simp_all
  obtain ⟨t, ht, k0⟩ := arg_struct TabD Try.underlying26 (by kernel_rfl) (hval 0 26 _ rfl rfl) h0
  obtain ⟨p, hp, k1⟩ := arg_struct PatD Try.underlying28 (by kernel_rfl) (hval 1 28 _ rfl rfl) h1
  refine (law_calls (walk (okT_of ht) (okP_of hp)) (repL1 k0 (repL1 k1 repL0))).mono fun e W' ⟨he, hb⟩ => ?_
  subst he
  exact ⟨_, rfl, hfin W' hb ⟨_, rfl⟩ rfl⟩

theorem proved : Rows.DeltaLeastSaid :=
  OpenClaim.holds_of_wide 3 Try.f3 rfl rfl rfl rfl rfl rfl rfl ⟨rfl, rfl, rfl, rfl, rfl⟩ rfl rfl rfl rfl rfl (by kernel_rfl) Try.func3 (by kernel_rfl)
    (of_decide_eq_true (by kernel_rfl)) (by unfold Func.isWrapper; first | (rw [if_pos (by decide +kernel)]; kernel_rfl) | (rw [if_neg (by decide +kernel)]; exact ⟨rfl, rfl⟩))
    (fun os started H enc _ => lifted os started H enc)

end Go.Proofs.Ytmbebimingkfeaa.deltaLeast
