/-
  LineJoins answers true, whatever lines it is handed. No condition.
-/
import Derived.Test.YtgjchdhdopgkkaaDoorLnBegun
import Derived.Test.YtgjchdhdopgkkaaDoorLineF
import Derived.Test.YtgjchdhdopgkkaaDoorTied
set_option linter.unusedVariables false
set_option linter.unusedSimpArgs false
set_option maxRecDepth 100000
namespace Go.Proofs.YtgjchdhdopgkkaaDoor.lineJoins
open Go.ChangeShapes Go.WideShapes Go.ChangeAt Go.RowKit Go.Ab
/-- datelinelaw.LineJoins -/
def c5 : AC := (.seq (.reg [⟨(some 2), none, (.mv (.const (.bool false)))⟩]) (.seq (.reg [⟨(some 8), none, (.mv (.tmp 0))⟩, ⟨(some 9), none, (.call (.func 11) [(.tmp 8)])⟩, ⟨(some 7), none, (.mv (.tmp 9))⟩, ⟨(some 10), none, (.ext (.tmp 7) 0)⟩, ⟨(some 11), none, (.ext (.tmp 7) 1)⟩, ⟨(some 3), none, (.mv (.tmp 10))⟩, ⟨(some 4), none, (.mv (.tmp 11))⟩]) (.seq (.reg [⟨(some 13), none, (.mv (.tmp 0))⟩, ⟨(some 14), none, (.call (.func 12) [(.tmp 13)])⟩, ⟨(some 12), none, (.mv (.tmp 14))⟩, ⟨(some 15), none, (.ext (.tmp 12) 0)⟩, ⟨(some 16), none, (.ext (.tmp 12) 1)⟩, ⟨(some 5), none, (.mv (.tmp 15))⟩, ⟨(some 6), none, (.mv (.tmp 16))⟩]) (.seq (.reg [⟨(some 17), none, (.call (.func 7) [])⟩, ⟨(some 18), none, (.mv (.tmp 17))⟩, ⟨(some 19), (some (18, true)), (.mv (.tmp 4))⟩, ⟨(some 20), (some (18, true)), (.mv (.tmp 6))⟩, ⟨(some 21), (some (18, true)), (.bin .eql (.tmp 19) (.tmp 20))⟩, ⟨(some 22), none, (.pick (.tmp 18) (.tmp 21) (.const (.bool false)))⟩, ⟨(some 23), none, (.mv (.tmp 22))⟩, ⟨(some 24), (some (23, true)), (.mv (.tmp 3))⟩, ⟨(some 25), (some (23, true)), (.mv (.tmp 5))⟩, ⟨(some 26), (some (23, true)), (.bin .eql (.tmp 24) (.tmp 25))⟩, ⟨(some 27), none, (.pick (.tmp 23) (.tmp 26) (.const (.bool false)))⟩, ⟨(some 2), none, (.mv (.tmp 27))⟩]) .ret))))
theorem k5 : compF Tryd.prog 5 = some ⟨c5, [(.tmp 2)], 28⟩ := by kernel_rfl
theorem i5 {a0 : AV} {h : AH} {R : AE → Prop} (hw : ∀ n, h.length = n → (∀ e ∈ h, e.lt n = true) → AV.ltL n [a0] = true → AV.bdL [a0] → aw Tryd.prog n c5 (retA [(.tmp 2)] fun x h' => ∃ z, h' = h ++ z ∧ x.lt n = true ∧ R x) [a0, .any, .any, .any, .any, .any, .any, .any, .any, .any, .any, .any, .any, .any, .any, .any, .any, .any, .any, .any, .any, .any, .any, .any, .any, .any, .any, .any] (h ++ [])) : ACalls Tryd.prog 5 [a0] h fun x h' => h' = h ∧ R x := ACalls.into k5 rfl hw
theorem w5 {a0 : AV} {h : AH} {res : AV} (hw : ∀ n, h.length = n → (∀ e ∈ h, e.lt n = true) → AV.ltL n [a0] = true → AV.bdL [a0] → aw Tryd.prog n c5 (retA [(.tmp 2)] fun x h' => ∃ z, h' = h ++ z ∧ x.lt n = true ∧ ∃ c, x = .ret c ∧ Wk c res) [a0, .any, .any, .any, .any, .any, .any, .any, .any, .any, .any, .any, .any, .any, .any, .any, .any, .any, .any, .any, .any, .any, .any, .any, .any, .any, .any, .any] (h ++ [])) : ACalls Tryd.prog 5 [a0] h fun x h' => h' = h ∧ x = .ret res := ACalls.weak (ACalls.into k5 rfl hw)
theorem n5 {a0 : AV} {h : AH} {R : AE → AH → Prop} (hw : ∀ n, h.length = n → (∀ e ∈ h, e.lt n = true) → AV.ltL n [a0] = true → AV.bdL [a0] → aw Tryd.prog n c5 (retA [(.tmp 2)] R) [a0, .any, .any, .any, .any, .any, .any, .any, .any, .any, .any, .any, .any, .any, .any, .any, .any, .any, .any, .any, .any, .any, .any, .any, .any, .any, .any, .any] (h ++ [])) : ACalls Tryd.prog 5 [a0] h R := ACalls.intoN k5 rfl hw
theorem j5 {a0 : AV} {h : AH} {R : AE → AH → Prop} (hw : ∀ n, h.length = n → (∀ e ∈ h, e.lt n = true) → AV.ltL n [a0] = true → AV.bdL [a0] → aw Tryd.prog n c5 (retA [(.tmp 2)] fun x h' => ∃ y z, h' = y ++ z ∧ y.length = n ∧ (∀ e ∈ y, e.lt n = true) ∧ x.lt n = true ∧ R x y) [a0, .any, .any, .any, .any, .any, .any, .any, .any, .any, .any, .any, .any, .any, .any, .any, .any, .any, .any, .any, .any, .any, .any, .any, .any, .any, .any, .any] (h ++ [])) : ACalls Tryd.prog 5 [a0] h R := ACalls.intoG k5 rfl hw
theorem walk {l : List Ln} {full : Bool} (hok : okLns l) : ACalls Tryd.prog 5 [.sl l.length 3 full (rows lnC l)] [] fun x h' => h' = [] ∧ x = .ret (bv true) := by
  refine i5 ?_
  intro N hn hlt hlA hbd
  try simp only [AV.bdL, AV.bd, and_true, true_and] at hbd
  refine w_seq ?_
  refine w_reg ?_
  refine s_val rfl (v_mv lkb) pt2 ?_
  refine s_nil ?_
  refine n_seq ?_
  refine w_seq ?_
  refine w_reg ?_
  refine s_val rfl (v_mv lk0) pt8 ?_
  refine s_callp (mp1 lk8 mp0) (lnJoin_a (l := l) hok) pt9 ?_
  refine s_val rfl (v_mv lk9) pt7 ?_
  refine s_val rfl (v_ext lk7 gt0) pt10 ?_
  refine s_val rfl (v_ext lk7 gt1) pt11 ?_
  refine s_val rfl (v_mv lk10) pt3 ?_
  refine s_val rfl (v_mv lk11) pt4 ?_
  refine s_nil ?_
  refine n_seq ?_
  refine w_seq ?_
  refine w_reg ?_
  refine s_val rfl (v_mv lk0) pt13 ?_
  refine s_callp (mp1 lk13 mp0) (rjoinOf_a (l := l) hok) pt14 ?_
  refine s_val rfl (v_mv lk14) pt12 ?_
  refine s_val rfl (v_ext lk12 gt0) pt15 ?_
  refine s_val rfl (v_ext lk12 gt1) pt16 ?_
  refine s_val rfl (v_mv lk15) pt5 ?_
  refine s_val rfl (v_mv lk16) pt6 ?_
  refine s_nil ?_
  refine n_seq ?_
  refine w_seq ?_
  refine w_reg ?_
  refine s_callp mp0 (lbegun_a) pt17 ?_
  refine s_val rfl (v_mv lk17) pt18 ?_
  refine s_known gt18 (b := true) (by rfl) pt18 ?_
  refine s_do gt18 ?_
  refine s_val rfl (v_mv lk4) pt19 ?_
  refine s_do gt18 ?_
  refine s_val rfl (v_mv lk6) pt20 ?_
  refine s_do gt18 ?_
  refine s_val rfl ((by first | exact v_eql lk19 lk20 | exact v_eqlS lk19 lk20)) pt21 ?_
  refine s_val rfl (v_pickT lk18 lk21) pt22 ?_
  refine s_val rfl (v_mv lk22) pt23 ?_
  refine s_known gt23 (b := true) (by exact decide_eq_true rfl) pt23 ?_
  refine s_do gt23 ?_
  refine s_val rfl (v_mv lk3) pt24 ?_
  refine s_do gt23 ?_
  refine s_val rfl (v_mv lk5) pt25 ?_
  refine s_do gt23 ?_
  refine s_val rfl ((by first | exact v_eql lk24 lk25 | exact v_eqlS lk24 lk25)) pt26 ?_
  refine s_val rfl (v_pickT lk23 lk26) pt27 ?_
  refine s_val rfl (v_mv lk27) pt2 ?_
  refine s_nil ?_
  refine n_seq ?_
  refine w_rets ?_
  refine w_ret (rs1 (rr_t gt2)) ?_
  refine rt (by first | rfl | (simp only [AV.lt, AV.ltL, Ent.lt, List.all_cons, List.all_nil, Bool.and_true, Bool.and_self, decide_true, str_lt, ln_lt]; done) | (simp [AV.lt, AV.ltL, Ent.lt, str_lt, ln_lt, *]; done) | (simp [AV.lt, AV.ltL, Ent.lt, str_lt, ln_lt, *]; omega)) ?_
  refine bvx ?_; exact decide_eq_true rfl

set_option maxRecDepth 100000 in
theorem lifted (os : Os) (started : os.Started) (H : Type) (enc : TypeId × Value → H) :
    ReturnsInHanded {} Tryd.checked os 5 .any (fun w args => (Rows.lineJoinsSpec.pre enc Tryd.prog Tryd.f5 [] false w args ∧ laidMetH Tryd.prog Rows.lineJoinsRow.laid w) ∧ sizedMet enc Tryd.prog Tryd.f5 (OpenSpec.ofChange Rows.lineJoinsSpec) false w args) (Rows.lineJoinsSpec.post enc Tryd.prog Tryd.f5 false true false false) := by
  refine handed_tied (C := Tryd.checked) own started (by kernel_rfl) Tryd.func5
    (ChangeSpec.witness_shaped (enc := enc) (C := Tryd.checked) (os := os) (X := fun w _ => laidMetH Tryd.prog Rows.lineJoinsRow.laid w) false (World.laidAll Tryd.prog os Rows.lineJoinsRow.laid) #[.slice none 0 0] 8 (World.laidAll_os _ _ _)
      (World.shaped_of_ZipB (by kernel_rfl) (by kernel_rfl)) (by kernel_rfl) (by kernel_rfl) (by kernel_rfl)
      (by rw [MakeChecks.laidMetH_plain _ _ _ (by kernel_rfl)]; exact laidMet_laidAll _ (by kernel_rfl) (by kernel_rfl))) ?_
  intro W base args ds gs before hval0 hW0 hL hsh
  have hval : ∀ (j : Nat) t v, Tryd.f5.params[j]? = some t → args[j]? = some v → Value.okWide Tryd.prog W .any base t v := hval0
  have hW := hW0
  obtain ⟨p, q, hA0, _, _, _, _⟩ := hW
  have hA : DataW.TrodAll enc Tryd.prog W 0 (fun _ => true) true Tryd.f5.params.toList args.toList ds p := hA0
  have hG : GlobW W := globW hsh
  have hfin : ∀ W', Below W.heap.size W W' → (∃ d, ds = d) → Rows.lineJoinsSpec.fn H ds = { results := [.lit (.bool true)], args := ds } → Rows.lineJoinsSpec.post enc Tryd.prog Tryd.f5 false true false false W args (.bool true) W' :=
    fun W' hb _ hs => law_post laidOut (by kernel_rfl) rfl Tryd.underlying4 rfl hs hW0 hb
--
  obtain ⟨v0, vs0, d0, ds0, p0, q0, hargs, rfl, rfl, h0, r0⟩ := trodAll_cons hA
  obtain ⟨rfl, rfl, rfl⟩ := trodAll_nil r0
  obtain rfl : args = #[v0] := by cases args; simp_all
  obtain ⟨l, hl, k0⟩ := arg_slice LnD Tryd.underlying23 (by kernel_rfl) (hval 0 23 _ rfl rfl) h0
  refine (law_calls (walk (okLns_of hl)) hG (repL1 k0 repL0)).mono fun e W' ⟨he, hb⟩ => ?_
  subst he
  exact ⟨_, rfl, hfin W' hb ⟨_, rfl⟩ rfl⟩

theorem row : Rows.LineJoinsSaid :=
  OpenClaim.holds_of_wide 5 Tryd.f5 rfl rfl rfl rfl rfl rfl rfl ⟨rfl, rfl, rfl, rfl, rfl⟩ rfl rfl rfl rfl rfl (by kernel_rfl) Tryd.func5 (by kernel_rfl)
    (of_decide_eq_true (by kernel_rfl)) (by unfold Func.isWrapper; first | (rw [if_pos (by decide +kernel)]; kernel_rfl) | (rw [if_neg (by decide +kernel)]; exact ⟨rfl, rfl⟩))
    (fun os started H enc _ => lifted os started H enc)
theorem proved : Rows.LineJoinsCardSaid :=
  Claim7.holds_tied_plain_at .later [] Rows.lineJoinsCard.laidKinds Rows.lineJoinsCard.laidTests Rows.lineJoinsCard.stood.harness Rows.lineJoinsCard.stood.looks
    row (fun _ h => by cases h) (by kernel_rfl) (fun _ h => by cases h) lineJoins_row_tie rfl ⟨rfl, rfl⟩ (by kernel_rfl) rfl
    (fun f fn hf hfn => by
      obtain rfl : f = 5 := Option.some.inj ((show Tryd.prog.funcNamed "dateline/datelinelaw.LineJoins" = some 5 by kernel_rfl).symm.trans hf) |>.symm
      obtain rfl : fn = Tryd.f5 := (Option.some.inj (Tryd.func5.symm.trans hfn)).symm
      exact ⟨by kernel_rfl, fun j t ht => by
        have hm : t ∈ Tryd.f5.params.toList := Array.mem_toList_iff.2 (Array.mem_of_getElem? ht)
        have hall : (Tryd.f5.params.toList.all fun u => !Tryd.prog.wantsStandIn u) = true := by kernel_rfl
        exact (show Tryd.prog.wantsStandIn t = false by simpa using List.all_eq_true.1 hall t hm)⟩)
    (by kernel_rfl)

end Go.Proofs.YtgjchdhdopgkkaaDoor.lineJoins
