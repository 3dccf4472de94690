/-
  LineSplits answers true, whatever text it is handed. No condition.
-/
import Derived.Test.YtgjchdhdopgkkaaDoorLnBegun
import Derived.Test.YtgjchdhdopgkkaaDoorLineF
import Derived.Test.YtgjchdhdopgkkaaDoorTied
set_option linter.unusedVariables false
set_option linter.unusedSimpArgs false
set_option maxRecDepth 100000
namespace Go.Proofs.YtgjchdhdopgkkaaDoor.lineSplits
open Go.ChangeShapes Go.WideShapes Go.ChangeAt Go.RowKit Go.Ab
/-- datelinelaw.LineSplits -/
def c4 : AC := (.seq (.reg [⟨(some 2), none, (.mv (.const (.bool false)))⟩]) (.seq (.reg [⟨(some 10), none, (.mv (.tmp 0))⟩, ⟨(some 11), none, (.call (.func 8) [(.tmp 10)])⟩, ⟨(some 9), none, (.mv (.tmp 11))⟩, ⟨(some 12), none, (.ext (.tmp 9) 0)⟩, ⟨(some 13), none, (.ext (.tmp 9) 1)⟩, ⟨(some 14), none, (.ext (.tmp 9) 2)⟩, ⟨(some 3), none, (.mv (.tmp 12))⟩, ⟨(some 4), none, (.mv (.tmp 13))⟩, ⟨(some 5), none, (.mv (.tmp 14))⟩]) (.seq (.reg [⟨(some 16), none, (.mv (.tmp 0))⟩, ⟨(some 17), none, (.call (.func 10) [(.tmp 16)])⟩, ⟨(some 15), none, (.mv (.tmp 17))⟩, ⟨(some 18), none, (.ext (.tmp 15) 0)⟩, ⟨(some 19), none, (.ext (.tmp 15) 1)⟩, ⟨(some 20), none, (.ext (.tmp 15) 2)⟩, ⟨(some 6), none, (.mv (.tmp 18))⟩, ⟨(some 7), none, (.mv (.tmp 19))⟩, ⟨(some 8), none, (.mv (.tmp 20))⟩]) (.seq (.reg [⟨(some 21), none, (.call (.func 7) [])⟩, ⟨(some 22), none, (.mv (.tmp 21))⟩, ⟨(some 23), (some (22, true)), (.mv (.tmp 5))⟩, ⟨(some 24), (some (22, true)), (.mv (.tmp 8))⟩, ⟨(some 25), (some (22, true)), (.bin .eql (.tmp 23) (.tmp 24))⟩, ⟨(some 26), none, (.pick (.tmp 22) (.tmp 25) (.const (.bool false)))⟩, ⟨(some 27), none, (.mv (.tmp 26))⟩, ⟨(some 28), (some (27, true)), (.mv (.tmp 4))⟩, ⟨(some 29), (some (27, true)), (.mv (.tmp 7))⟩, ⟨(some 30), (some (27, true)), (.bin .eql (.tmp 28) (.tmp 29))⟩, ⟨(some 31), none, (.pick (.tmp 27) (.tmp 30) (.const (.bool false)))⟩, ⟨(some 32), none, (.mv (.tmp 31))⟩, ⟨(some 33), (some (32, true)), (.mv (.tmp 3))⟩, ⟨(some 34), (some (32, true)), (.mv (.tmp 6))⟩, ⟨(some 35), (some (32, true)), (.call (.func 9) [(.tmp 33), (.tmp 34), (.const (.bool true))])⟩, ⟨(some 36), none, (.pick (.tmp 32) (.tmp 35) (.const (.bool false)))⟩, ⟨(some 2), none, (.mv (.tmp 36))⟩]) .ret))))
theorem k4 : compF Tryd.prog 4 = some ⟨c4, [(.tmp 2)], 37⟩ := by kernel_rfl
theorem i4 {a0 : AV} {h : AH} {R : AE → Prop} (hw : ∀ n, h.length = n → (∀ e ∈ h, e.lt n = true) → AV.ltL n [a0] = true → AV.bdL [a0] → aw Tryd.prog n c4 (retA [(.tmp 2)] fun x h' => ∃ z, h' = h ++ z ∧ x.lt n = true ∧ R x) [a0, .any, .any, .any, .any, .any, .any, .any, .any, .any, .any, .any, .any, .any, .any, .any, .any, .any, .any, .any, .any, .any, .any, .any, .any, .any, .any, .any, .any, .any, .any, .any, .any, .any, .any, .any, .any] (h ++ [])) : ACalls Tryd.prog 4 [a0] h fun x h' => h' = h ∧ R x := ACalls.into k4 rfl hw
theorem w4 {a0 : AV} {h : AH} {res : AV} (hw : ∀ n, h.length = n → (∀ e ∈ h, e.lt n = true) → AV.ltL n [a0] = true → AV.bdL [a0] → aw Tryd.prog n c4 (retA [(.tmp 2)] fun x h' => ∃ z, h' = h ++ z ∧ x.lt n = true ∧ ∃ c, x = .ret c ∧ Wk c res) [a0, .any, .any, .any, .any, .any, .any, .any, .any, .any, .any, .any, .any, .any, .any, .any, .any, .any, .any, .any, .any, .any, .any, .any, .any, .any, .any, .any, .any, .any, .any, .any, .any, .any, .any, .any, .any] (h ++ [])) : ACalls Tryd.prog 4 [a0] h fun x h' => h' = h ∧ x = .ret res := ACalls.weak (ACalls.into k4 rfl hw)
theorem n4 {a0 : AV} {h : AH} {R : AE → AH → Prop} (hw : ∀ n, h.length = n → (∀ e ∈ h, e.lt n = true) → AV.ltL n [a0] = true → AV.bdL [a0] → aw Tryd.prog n c4 (retA [(.tmp 2)] R) [a0, .any, .any, .any, .any, .any, .any, .any, .any, .any, .any, .any, .any, .any, .any, .any, .any, .any, .any, .any, .any, .any, .any, .any, .any, .any, .any, .any, .any, .any, .any, .any, .any, .any, .any, .any, .any] (h ++ [])) : ACalls Tryd.prog 4 [a0] h R := ACalls.intoN k4 rfl hw
theorem j4 {a0 : AV} {h : AH} {R : AE → AH → Prop} (hw : ∀ n, h.length = n → (∀ e ∈ h, e.lt n = true) → AV.ltL n [a0] = true → AV.bdL [a0] → aw Tryd.prog n c4 (retA [(.tmp 2)] fun x h' => ∃ y z, h' = y ++ z ∧ y.length = n ∧ (∀ e ∈ y, e.lt n = true) ∧ x.lt n = true ∧ R x y) [a0, .any, .any, .any, .any, .any, .any, .any, .any, .any, .any, .any, .any, .any, .any, .any, .any, .any, .any, .any, .any, .any, .any, .any, .any, .any, .any, .any, .any, .any, .any, .any, .any, .any, .any, .any, .any] (h ++ [])) : ACalls Tryd.prog 4 [a0] h R := ACalls.intoG k4 rfl hw
theorem walk {s : ByteArray} : ACalls Tryd.prog 4 [sv s] [] fun x h' => h' = [] ∧ x = .ret (bv true) := by
  refine i4 ?_
  intro N hn hlt hlA hbd
  try simp only [AV.bdL, AV.bd, and_true, true_and] at hbd
  refine w_seq ?_
  refine w_reg ?_
  refine s_val rfl (v_mv lkb) pt2 ?_
  refine s_nil ?_
  refine n_seq ?_
  refine w_seq ?_
  refine w_reg ?_
  refine s_val rfl (v_mv lk0) pt10 ?_
  refine s_callp (mp1 lk10 mp0) (lnSplit_a (s := s)) pt11 ?_
  refine s_val rfl (v_mv lk11) pt9 ?_
  refine s_val rfl (v_ext lk9 gt0) pt12 ?_
  refine s_val rfl (v_ext lk9 gt1) pt13 ?_
  refine s_val rfl (v_ext lk9 gt2) pt14 ?_
  refine s_val rfl (v_mv lk12) pt3 ?_
  refine s_val rfl (v_mv lk13) pt4 ?_
  refine s_val rfl (v_mv lk14) pt5 ?_
  refine s_nil ?_
  refine n_seq ?_
  refine w_seq ?_
  refine w_reg ?_
  refine s_val rfl (v_mv lk0) pt16 ?_
  refine s_callp (mp1 lk16 mp0) (rsplitOf_a (s := s)) pt17 ?_
  refine s_val rfl (v_mv lk17) pt15 ?_
  refine s_val rfl (v_ext lk15 gt0) pt18 ?_
  refine s_val rfl (v_ext lk15 gt1) pt19 ?_
  refine s_val rfl (v_ext lk15 gt2) pt20 ?_
  refine s_val rfl (v_mv lk18) pt6 ?_
  refine s_val rfl (v_mv lk19) pt7 ?_
  refine s_val rfl (v_mv lk20) pt8 ?_
  refine s_nil ?_
  refine n_seq ?_
  refine w_seq ?_
  refine w_reg ?_
  refine s_callp mp0 (lbegun_a) pt21 ?_
  refine s_val rfl (v_mv lk21) pt22 ?_
  refine s_known gt22 (b := true) (by rfl) pt22 ?_
  refine s_do gt22 ?_
  refine s_val rfl (v_mv lk5) pt23 ?_
  refine s_do gt22 ?_
  refine s_val rfl (v_mv lk8) pt24 ?_
  refine s_do gt22 ?_
  refine s_val rfl ((by first | exact v_eql lk23 lk24 | exact v_eqlS lk23 lk24)) pt25 ?_
  refine s_val rfl (v_pickT lk22 lk25) pt26 ?_
  refine s_val rfl (v_mv lk26) pt27 ?_
  refine s_known gt27 (b := true) (by exact decide_eq_true rfl) pt27 ?_
  refine s_do gt27 ?_
  refine s_val rfl (v_mv lk4) pt28 ?_
  refine s_do gt27 ?_
  refine s_val rfl (v_mv lk7) pt29 ?_
  refine s_do gt27 ?_
  refine s_val rfl ((by first | exact v_eql lk28 lk29 | exact v_eqlS lk28 lk29)) pt30 ?_
  refine s_val rfl (v_pickT lk27 lk30) pt31 ?_
  refine s_val rfl (v_mv lk31) pt32 ?_
  refine s_known gt32 (b := true) (by exact decide_eq_true rfl) pt32 ?_
  refine s_do gt32 ?_
  refine s_val rfl (v_mv lk3) pt33 ?_
  refine s_do gt32 ?_
  refine s_val rfl (v_mv lk6) pt34 ?_
  refine s_do gt32 ?_
  refine s_callp (mp1 lk33 (mp1 lk34 (mp1 lkb mp0))) (rsameLines_a (a := (splitL s).1) (b := (splitL s).1) (nums := true)) pt35 ?_
  refine s_val rfl (v_pickT lk32 lk35) pt36 ?_
  refine s_val rfl (v_mv lk36) pt2 ?_
  refine s_nil ?_
  refine n_seq ?_
  refine w_rets ?_
  refine w_ret (rs1 (rr_t gt2)) ?_
  refine rt (by first | rfl | (simp only [AV.lt, AV.ltL, Ent.lt, List.all_cons, List.all_nil, Bool.and_true, Bool.and_self, decide_true, str_lt, ln_lt]; done) | (simp [AV.lt, AV.ltL, Ent.lt, str_lt, ln_lt, *]; done) | (simp [AV.lt, AV.ltL, Ent.lt, str_lt, ln_lt, *]; omega)) ?_
  refine bvx ?_; exact sameLn_true.2 rfl

set_option maxRecDepth 100000 in
theorem lifted (os : Os) (started : os.Started) (H : Type) (enc : TypeId × Value → H) :
    ReturnsInHanded {} Tryd.checked os 4 .any (fun w args => (Rows.lineSplitsSpec.pre enc Tryd.prog Tryd.f4 [] false w args ∧ laidMetH Tryd.prog Rows.lineSplitsRow.laid w) ∧ sizedMet enc Tryd.prog Tryd.f4 (OpenSpec.ofChange Rows.lineSplitsSpec) false w args) (Rows.lineSplitsSpec.post enc Tryd.prog Tryd.f4 false true false false) := by
  refine handed_tied (C := Tryd.checked) own started (by kernel_rfl) Tryd.func4
    (ChangeSpec.witness_shaped (enc := enc) (C := Tryd.checked) (os := os) (X := fun w _ => laidMetH Tryd.prog Rows.lineSplitsRow.laid w) false (World.laidAll Tryd.prog os Rows.lineSplitsRow.laid) #[.string ⟨#[]⟩] 8 (World.laidAll_os _ _ _)
      (World.shaped_of_ZipB (by kernel_rfl) (by kernel_rfl)) (by kernel_rfl) (by kernel_rfl) (by kernel_rfl)
      (by rw [MakeChecks.laidMetH_plain _ _ _ (by kernel_rfl)]; exact laidMet_laidAll _ (by kernel_rfl) (by kernel_rfl))) ?_
  intro W base args ds gs before hval0 hW0 hL hsh
  have hval : ∀ (j : Nat) t v, Tryd.f4.params[j]? = some t → args[j]? = some v → Value.okWide Tryd.prog W .any base t v := hval0
  have hW := hW0
  obtain ⟨p, q, hA0, _, _, _, _⟩ := hW
  have hA : DataW.TrodAll enc Tryd.prog W 0 (fun _ => true) true Tryd.f4.params.toList args.toList ds p := hA0
  have hG : GlobW W := globW hsh
  have hfin : ∀ W', Below W.heap.size W W' → (∃ d, ds = d) → Rows.lineSplitsSpec.fn H ds = { results := [.lit (.bool true)], args := ds } → Rows.lineSplitsSpec.post enc Tryd.prog Tryd.f4 false true false false W args (.bool true) W' :=
    fun W' hb _ hs => law_post laidOut (by kernel_rfl) rfl Tryd.underlying4 rfl hs hW0 hb
--
  obtain ⟨v0, vs0, d0, ds0, p0, q0, hargs, rfl, rfl, h0, r0⟩ := trodAll_cons hA
  obtain ⟨rfl, rfl, rfl⟩ := trodAll_nil r0
  obtain rfl : args = #[v0] := by cases args; simp_all
  obtain ⟨s, hs, k0⟩ := arg_str Tryd.underlying9 (hval 0 9 _ rfl rfl) h0
  refine (law_calls walk hG (repL1 k0 repL0)).mono fun e W' ⟨he, hb⟩ => ?_
  subst he
  exact ⟨_, rfl, hfin W' hb ⟨_, rfl⟩ rfl⟩

theorem row : Rows.LineSplitsSaid :=
  OpenClaim.holds_of_wide 4 Tryd.f4 rfl rfl rfl rfl rfl rfl rfl ⟨rfl, rfl, rfl, rfl, rfl⟩ rfl rfl rfl rfl rfl (by kernel_rfl) Tryd.func4 (by kernel_rfl)
    (of_decide_eq_true (by kernel_rfl)) (by unfold Func.isWrapper; first | (rw [if_pos (by decide +kernel)]; kernel_rfl) | (rw [if_neg (by decide +kernel)]; exact ⟨rfl, rfl⟩))
    (fun os started H enc _ => lifted os started H enc)
theorem proved : Rows.LineSplitsCardSaid :=
  Claim7.holds_tied_plain_at .later [] Rows.lineSplitsCard.laidKinds Rows.lineSplitsCard.laidTests Rows.lineSplitsCard.stood.harness Rows.lineSplitsCard.stood.looks
    row (fun _ h => by cases h) (by kernel_rfl) (fun _ h => by cases h) lineSplits_row_tie rfl ⟨rfl, rfl⟩ (by kernel_rfl) rfl
    (fun f fn hf hfn => by
      obtain rfl : f = 4 := Option.some.inj ((show Tryd.prog.funcNamed "dateline/datelinelaw.LineSplits" = some 4 by kernel_rfl).symm.trans hf) |>.symm
      obtain rfl : fn = Tryd.f4 := (Option.some.inj (Tryd.func4.symm.trans hfn)).symm
      exact ⟨by kernel_rfl, fun j t ht => by
        have hm : t ∈ Tryd.f4.params.toList := Array.mem_toList_iff.2 (Array.mem_of_getElem? ht)
        have hall : (Tryd.f4.params.toList.all fun u => !Tryd.prog.wantsStandIn u) = true := by kernel_rfl
        exact (show Tryd.prog.wantsStandIn t = false by simpa using List.all_eq_true.1 hall t hm)⟩)
    (by kernel_rfl)

end Go.Proofs.YtgjchdhdopgkkaaDoor.lineSplits
