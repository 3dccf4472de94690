/-
  LineBack answers true, whatever lines and text it is handed. No condition.
-/
import Derived.Test.YtgjchdhdopgkkaaDoorLnLaw
import Derived.Test.YtgjchdhdopgkkaaDoorTied
set_option linter.unusedVariables false
set_option linter.unusedSimpArgs false
set_option maxRecDepth 100000
namespace Go.Proofs.YtgjchdhdopgkkaaDoor.lineBack
open Go.ChangeShapes Go.WideShapes Go.ChangeAt Go.RowKit Go.Ab
/-- datelinelaw.LineBack -/
def c6 : AC := (.seq (.reg [⟨(some 4), none, (.mv (.const (.bool false)))⟩]) (.seq (.seq (.reg [⟨(some 14), none, (.call (.func 7) [])⟩, ⟨(some 15), none, (.un .not (.tmp 14))⟩]) (.cond (.tmp 15) (.seq (.reg [⟨(some 4), none, (.mv (.const (.bool false)))⟩]) .ret) .skip)) (.seq (.reg [⟨(some 17), none, (.mv (.tmp 0))⟩, ⟨(some 18), none, (.call (.func 11) [(.tmp 17)])⟩, ⟨(some 16), none, (.mv (.tmp 18))⟩, ⟨(some 19), none, (.ext (.tmp 16) 0)⟩, ⟨(some 20), none, (.ext (.tmp 16) 1)⟩, ⟨(some 5), none, (.mv (.tmp 19))⟩, ⟨(some 6), none, (.mv (.tmp 20))⟩]) (.seq (.seq (.reg [⟨(some 21), none, (.mv (.tmp 6))⟩, ⟨(some 22), none, (.bin .eql (.tmp 21) (.const (.int .i64 0)))⟩]) (.cond (.tmp 22) (.seq (.reg [⟨(some 24), none, (.mv (.tmp 5))⟩, ⟨(some 25), none, (.call (.func 8) [(.tmp 24)])⟩, ⟨(some 23), none, (.mv (.tmp 25))⟩, ⟨(some 26), none, (.ext (.tmp 23) 0)⟩, ⟨(some 27), none, (.ext (.tmp 23) 1)⟩, ⟨(some 28), none, (.ext (.tmp 23) 2)⟩, ⟨(some 7), none, (.mv (.tmp 26))⟩, ⟨(some 8), none, (.mv (.tmp 27))⟩, ⟨(some 9), none, (.mv (.tmp 28))⟩]) (.seq (.reg [⟨(some 29), none, (.mv (.tmp 9))⟩, ⟨(some 30), none, (.bin .neq (.tmp 29) (.const (.int .i64 0)))⟩, ⟨(some 31), none, (.mv (.tmp 30))⟩, ⟨(some 32), (some (31, false)), (.mv (.tmp 7))⟩, ⟨(some 33), (some (31, false)), (.mv (.tmp 0))⟩, ⟨(some 34), (some (31, false)), (.call (.func 9) [(.tmp 32), (.tmp 33), (.const (.bool false))])⟩, ⟨(some 35), (some (31, false)), (.un .not (.tmp 34))⟩, ⟨(some 36), none, (.pick (.tmp 31) (.const (.bool true)) (.tmp 35))⟩]) (.cond (.tmp 36) (.seq (.reg [⟨(some 4), none, (.mv (.const (.bool false)))⟩]) .ret) .skip))) .skip)) (.seq (.reg [⟨(some 38), none, (.mv (.tmp 1))⟩, ⟨(some 39), none, (.call (.func 8) [(.tmp 38)])⟩, ⟨(some 37), none, (.mv (.tmp 39))⟩, ⟨(some 40), none, (.ext (.tmp 37) 0)⟩, ⟨(some 41), none, (.ext (.tmp 37) 1)⟩, ⟨(some 42), none, (.ext (.tmp 37) 2)⟩, ⟨(some 10), none, (.mv (.tmp 40))⟩, ⟨(some 11), none, (.mv (.tmp 41))⟩, ⟨(some 6), none, (.mv (.tmp 42))⟩]) (.seq (.seq (.reg [⟨(some 43), none, (.mv (.tmp 6))⟩, ⟨(some 44), none, (.bin .neq (.tmp 43) (.const (.int .i64 0)))⟩]) (.cond (.tmp 44) (.seq (.reg [⟨(some 45), none, (.mv (.tmp 10))⟩, ⟨(some 46), none, (.len false (.tmp 45))⟩, ⟨(some 47), none, (.bin .eql (.tmp 46) (.const (.int .i64 0)))⟩, ⟨(some 4), none, (.mv (.tmp 47))⟩]) .ret) .skip)) (.seq (.reg [⟨(some 49), none, (.mv (.tmp 10))⟩, ⟨(some 50), none, (.call (.func 11) [(.tmp 49)])⟩, ⟨(some 48), none, (.mv (.tmp 50))⟩, ⟨(some 51), none, (.ext (.tmp 48) 0)⟩, ⟨(some 52), none, (.ext (.tmp 48) 1)⟩, ⟨(some 5), none, (.mv (.tmp 51))⟩, ⟨(some 6), none, (.mv (.tmp 52))⟩]) (.seq (.seq (.reg [⟨(some 53), none, (.mv (.tmp 6))⟩, ⟨(some 54), none, (.bin .neq (.tmp 53) (.const (.int .i64 0)))⟩]) (.cond (.tmp 54) (.seq (.reg [⟨(some 55), none, (.mv (.tmp 6))⟩, ⟨(some 56), none, (.bin .eql (.tmp 55) (.const (.int .i64 2)))⟩, ⟨(some 4), none, (.mv (.tmp 56))⟩]) .ret) .skip)) (.seq (.reg [⟨(some 58), none, (.mv (.tmp 5))⟩, ⟨(some 59), none, (.call (.func 8) [(.tmp 58)])⟩, ⟨(some 57), none, (.mv (.tmp 59))⟩, ⟨(some 60), none, (.ext (.tmp 57) 0)⟩, ⟨(some 61), none, (.ext (.tmp 57) 1)⟩, ⟨(some 62), none, (.ext (.tmp 57) 2)⟩, ⟨(some 12), none, (.mv (.tmp 60))⟩, ⟨(some 13), none, (.mv (.tmp 61))⟩, ⟨(some 6), none, (.mv (.tmp 62))⟩]) (.seq (.reg [⟨(some 63), none, (.mv (.tmp 6))⟩, ⟨(some 64), none, (.bin .eql (.tmp 63) (.const (.int .i64 0)))⟩, ⟨(some 65), none, (.mv (.tmp 64))⟩, ⟨(some 66), (some (65, true)), (.mv (.tmp 10))⟩, ⟨(some 67), (some (65, true)), (.mv (.tmp 12))⟩, ⟨(some 68), (some (65, true)), (.call (.func 9) [(.tmp 66), (.tmp 67), (.const (.bool false))])⟩, ⟨(some 69), none, (.pick (.tmp 65) (.tmp 68) (.const (.bool false)))⟩, ⟨(some 4), none, (.mv (.tmp 69))⟩]) .ret))))))))))
theorem k6 : compF Tryd.prog 6 = some ⟨c6, [(.tmp 4)], 70⟩ := by kernel_rfl
theorem i6 {a0 a1 : AV} {h : AH} {R : AE → Prop} (hw : ∀ n, h.length = n → (∀ e ∈ h, e.lt n = true) → AV.ltL n [a0, a1] = true → AV.bdL [a0, a1] → aw Tryd.prog n c6 (retA [(.tmp 4)] fun x h' => ∃ z, h' = h ++ z ∧ x.lt n = true ∧ R x) [a0, a1, .any, .any, .any, .any, .any, .any, .any, .any, .any, .any, .any, .any, .any, .any, .any, .any, .any, .any, .any, .any, .any, .any, .any, .any, .any, .any, .any, .any, .any, .any, .any, .any, .any, .any, .any, .any, .any, .any, .any, .any, .any, .any, .any, .any, .any, .any, .any, .any, .any, .any, .any, .any, .any, .any, .any, .any, .any, .any, .any, .any, .any, .any, .any, .any, .any, .any, .any, .any] (h ++ [])) : ACalls Tryd.prog 6 [a0, a1] h fun x h' => h' = h ∧ R x := ACalls.into k6 rfl hw
theorem w6 {a0 a1 : AV} {h : AH} {res : AV} (hw : ∀ n, h.length = n → (∀ e ∈ h, e.lt n = true) → AV.ltL n [a0, a1] = true → AV.bdL [a0, a1] → aw Tryd.prog n c6 (retA [(.tmp 4)] fun x h' => ∃ z, h' = h ++ z ∧ x.lt n = true ∧ ∃ c, x = .ret c ∧ Wk c res) [a0, a1, .any, .any, .any, .any, .any, .any, .any, .any, .any, .any, .any, .any, .any, .any, .any, .any, .any, .any, .any, .any, .any, .any, .any, .any, .any, .any, .any, .any, .any, .any, .any, .any, .any, .any, .any, .any, .any, .any, .any, .any, .any, .any, .any, .any, .any, .any, .any, .any, .any, .any, .any, .any, .any, .any, .any, .any, .any, .any, .any, .any, .any, .any, .any, .any, .any, .any, .any, .any] (h ++ [])) : ACalls Tryd.prog 6 [a0, a1] h fun x h' => h' = h ∧ x = .ret res := ACalls.weak (ACalls.into k6 rfl hw)
theorem n6 {a0 a1 : AV} {h : AH} {R : AE → AH → Prop} (hw : ∀ n, h.length = n → (∀ e ∈ h, e.lt n = true) → AV.ltL n [a0, a1] = true → AV.bdL [a0, a1] → aw Tryd.prog n c6 (retA [(.tmp 4)] R) [a0, a1, .any, .any, .any, .any, .any, .any, .any, .any, .any, .any, .any, .any, .any, .any, .any, .any, .any, .any, .any, .any, .any, .any, .any, .any, .any, .any, .any, .any, .any, .any, .any, .any, .any, .any, .any, .any, .any, .any, .any, .any, .any, .any, .any, .any, .any, .any, .any, .any, .any, .any, .any, .any, .any, .any, .any, .any, .any, .any, .any, .any, .any, .any, .any, .any, .any, .any, .any, .any] (h ++ [])) : ACalls Tryd.prog 6 [a0, a1] h R := ACalls.intoN k6 rfl hw
theorem j6 {a0 a1 : AV} {h : AH} {R : AE → AH → Prop} (hw : ∀ n, h.length = n → (∀ e ∈ h, e.lt n = true) → AV.ltL n [a0, a1] = true → AV.bdL [a0, a1] → aw Tryd.prog n c6 (retA [(.tmp 4)] fun x h' => ∃ y z, h' = y ++ z ∧ y.length = n ∧ (∀ e ∈ y, e.lt n = true) ∧ x.lt n = true ∧ R x y) [a0, a1, .any, .any, .any, .any, .any, .any, .any, .any, .any, .any, .any, .any, .any, .any, .any, .any, .any, .any, .any, .any, .any, .any, .any, .any, .any, .any, .any, .any, .any, .any, .any, .any, .any, .any, .any, .any, .any, .any, .any, .any, .any, .any, .any, .any, .any, .any, .any, .any, .any, .any, .any, .any, .any, .any, .any, .any, .any, .any, .any, .any, .any, .any, .any, .any, .any, .any, .any, .any] (h ++ [])) : ACalls Tryd.prog 6 [a0, a1] h R := ACalls.intoG k6 rfl hw
theorem ok_split {s : ByteArray} : okLns (splitL s).1 := fun x hx f hf => by
  have := (fieldE_all ((lineE_ok (splitL_good x hx)).2.2 f hf)).2
  unfold maxLen; omega
theorem walk {l : List Ln} {s : ByteArray} (hok : okLns l) : ACalls Tryd.prog 6 [.sl l.length 3 false (rows lnC l), sv s] [] fun x h' => h' = [] ∧ x = .ret (bv true) := by
  refine i6 ?_
  intro N hn hlt hlA hbd
  try simp only [AV.bdL, AV.bd, and_true, true_and] at hbd
  refine w_seq ?_
  refine w_reg ?_
  refine s_val rfl (v_mv lkb) pt4 ?_
  refine s_nil ?_
  refine n_seq ?_
  refine w_seq ?_
  refine w_seq ?_
  refine w_reg ?_
  refine s_callp mp0 (lbegun_a) pt14 ?_
  refine s_val rfl ((by first | exact v_not lk14 | exact v_notB lk14)) pt15 ?_
  refine s_nil ?_
  refine n_seq ?_
  refine w_condKF lk15 (by rfl) ?_
  refine w_skip ?_
  refine n_seq ?_
  refine w_seq ?_
  refine w_reg ?_
  refine s_val rfl (v_mv lk0) pt17 ?_
  refine s_callp (mp1 lk17 mp0) (lnJoin_a (l := l) hok) pt18 ?_
  refine s_val rfl (v_mv lk18) pt16 ?_
  refine s_val rfl (v_ext lk16 gt0) pt19 ?_
  refine s_val rfl (v_ext lk16 gt1) pt20 ?_
  refine s_val rfl (v_mv lk19) pt5 ?_
  refine s_val rfl (v_mv lk20) pt6 ?_
  refine s_nil ?_
  refine n_seq ?_
  refine w_seq ?_
  refine w_seq ?_
  refine w_reg ?_
  refine s_val rfl (v_mv lk6) pt21 ?_
  refine s_val rfl (v_eql lk21 lki) pt22 ?_
  refine s_nil ?_
  refine n_seq ?_
  first | refine w_cond lk22 (fun hc2 => ?_) (fun hc2 => ?_) | refine w_condB lk22 (fun hc2 => ?_) (fun hc2 => ?_)
  · skip
    obtain ⟨hj1, hj2⟩ := split_join hc2
    refine w_seq ?_
    refine w_reg ?_
    refine s_val rfl (v_mv lk5) pt24 ?_
    refine s_callp (mp1 lk24 mp0) (lnSplit_a (s := (joinV l).1)) pt25 ?_
    refine s_val rfl (v_mv lk25) pt23 ?_
    refine s_val rfl (v_ext lk23 gt0) pt26 ?_
    refine s_val rfl (v_ext lk23 gt1) pt27 ?_
    refine s_val rfl (v_ext lk23 gt2) pt28 ?_
    refine s_val rfl (v_mv lk26) pt7 ?_
    refine s_val rfl (v_mv lk27) pt8 ?_
    refine s_val rfl (v_mv lk28) pt9 ?_
    refine s_nil ?_
    refine n_seq ?_
    refine w_seq ?_
    refine w_reg ?_
    refine s_val rfl (v_mv lk9) pt29 ?_
    refine s_val rfl (v_neq lk29 lki) pt30 ?_
    refine s_val rfl (v_mv lk30) pt31 ?_
    refine s_known gt31 (b := false) (by exact decide_eq_false (fun e => e hj1)) pt31 ?_
    refine s_do gt31 ?_
    refine s_val rfl (v_mv lk7) pt32 ?_
    refine s_do gt31 ?_
    refine s_val rfl (v_mv lk0) pt33 ?_
    refine s_do gt31 ?_
    refine s_callp (mp1 lk32 (mp1 lk33 (mp1 lkb mp0))) (rsameLines_a (a := (splitL (joinV l).1).1) (b := l) (nums := false)) pt34 ?_
    refine s_do gt31 ?_
    refine s_val rfl ((by first | exact v_not lk34 | exact v_notB lk34)) pt35 ?_
    refine s_val rfl (v_pickF lk31 lk35) pt36 ?_
    refine s_nil ?_
    refine n_seq ?_
    refine w_condKF lk36 (by exact decide_eq_false (not_not_intro (of_decide_eq_true (sameLn_false.2 hj2)))) ?_
    refine w_skip ?_
    refine n_seq ?_
    refine w_seq ?_
    refine w_reg ?_
    refine s_val rfl (v_mv lk1) pt38 ?_
    refine s_callp (mp1 lk38 mp0) (lnSplit_a (s := s)) pt39 ?_
    refine s_val rfl (v_mv lk39) pt37 ?_
    refine s_val rfl (v_ext lk37 gt0) pt40 ?_
    refine s_val rfl (v_ext lk37 gt1) pt41 ?_
    refine s_val rfl (v_ext lk37 gt2) pt42 ?_
    refine s_val rfl (v_mv lk40) pt10 ?_
    refine s_val rfl (v_mv lk41) pt11 ?_
    refine s_val rfl (v_mv lk42) pt6 ?_
    refine s_nil ?_
    refine n_seq ?_
    refine w_seq ?_
    refine w_seq ?_
    refine w_reg ?_
    refine s_val rfl (v_mv lk6) pt43 ?_
    refine s_val rfl (v_neq lk43 lki) pt44 ?_
    refine s_nil ?_
    refine n_seq ?_
    first | refine w_cond lk44 (fun hc4 => ?_) (fun hc4 => ?_) | refine w_condB lk44 (fun hc4 => ?_) (fun hc4 => ?_)
    · skip
      refine w_seq ?_
      refine w_reg ?_
      refine s_val rfl (v_mv lk10) pt45 ?_
      refine s_val rfl ((by first | exact v_lenL lk45 | exact v_lenO lk45)) pt46 ?_
      refine s_val rfl (v_eql lk46 lki) pt47 ?_
      refine s_val rfl (v_mv lk47) pt4 ?_
      refine s_nil ?_
      refine n_seq ?_
      refine w_rets ?_
      refine r_thn ?_
      refine w_ret (rs1 (rr_t gt4)) ?_
      refine rt (by first | rfl | (simp only [AV.lt, AV.ltL, Ent.lt, List.all_cons, List.all_nil, Bool.and_true, Bool.and_self, decide_true, str_lt, ln_lt]; done) | (simp [AV.lt, AV.ltL, Ent.lt, str_lt, ln_lt, *]; done) | (simp [AV.lt, AV.ltL, Ent.lt, str_lt, ln_lt, *]; omega)) ?_
      refine bvx ?_; rw [splitL_bad hc4]; rfl
    · skip
      refine w_skip ?_
      refine n_seq ?_
      refine w_seq ?_
      refine w_reg ?_
      refine s_val rfl (v_mv lk10) pt49 ?_
      refine s_callp (mp1 lk49 mp0) (lnJoin_a (l := (splitL s).1) ok_split) pt50 ?_
      refine s_val rfl (v_mv lk50) pt48 ?_
      refine s_val rfl (v_ext lk48 gt0) pt51 ?_
      refine s_val rfl (v_ext lk48 gt1) pt52 ?_
      refine s_val rfl (v_mv lk51) pt5 ?_
      refine s_val rfl (v_mv lk52) pt6 ?_
      refine s_nil ?_
      refine n_seq ?_
      refine w_seq ?_
      refine w_seq ?_
      refine w_reg ?_
      refine s_val rfl (v_mv lk6) pt53 ?_
      refine s_val rfl (v_neq lk53 lki) pt54 ?_
      refine s_nil ?_
      refine n_seq ?_
      first | refine w_cond lk54 (fun hc5 => ?_) (fun hc5 => ?_) | refine w_condB lk54 (fun hc5 => ?_) (fun hc5 => ?_)
      · skip
        refine w_seq ?_
        refine w_reg ?_
        refine s_val rfl (v_mv lk6) pt55 ?_
        refine s_val rfl (v_eql lk55 lki) pt56 ?_
        refine s_val rfl (v_mv lk56) pt4 ?_
        refine s_nil ?_
        refine n_seq ?_
        refine w_rets ?_
        refine r_thn ?_
        refine w_ret (rs1 (rr_t gt4)) ?_
        refine rt (by first | rfl | (simp only [AV.lt, AV.ltL, Ent.lt, List.all_cons, List.all_nil, Bool.and_true, Bool.and_self, decide_true, str_lt, ln_lt]; done) | (simp [AV.lt, AV.ltL, Ent.lt, str_lt, ln_lt, *]; done) | (simp [AV.lt, AV.ltL, Ent.lt, str_lt, ln_lt, *]; omega)) ?_
        refine bvx ?_; rw [join_split hc5]; rfl
      · skip
        obtain ⟨hj3, hj4⟩ := split_join (Decidable.of_not_not hc5)
        refine w_skip ?_
        refine n_seq ?_
        refine w_seq ?_
        refine w_reg ?_
        refine s_val rfl (v_mv lk5) pt58 ?_
        refine s_callp (mp1 lk58 mp0) (lnSplit_a (s := (joinV (splitL s).1).1)) pt59 ?_
        refine s_val rfl (v_mv lk59) pt57 ?_
        refine s_val rfl (v_ext lk57 gt0) pt60 ?_
        refine s_val rfl (v_ext lk57 gt1) pt61 ?_
        refine s_val rfl (v_ext lk57 gt2) pt62 ?_
        refine s_val rfl (v_mv lk60) pt12 ?_
        refine s_val rfl (v_mv lk61) pt13 ?_
        refine s_val rfl (v_mv lk62) pt6 ?_
        refine s_nil ?_
        refine n_seq ?_
        refine w_seq ?_
        refine w_reg ?_
        refine s_val rfl (v_mv lk6) pt63 ?_
        refine s_val rfl (v_eql lk63 lki) pt64 ?_
        refine s_val rfl (v_mv lk64) pt65 ?_
        refine s_known gt65 (b := true) (by exact decide_eq_true hj3) pt65 ?_
        refine s_do gt65 ?_
        refine s_val rfl (v_mv lk10) pt66 ?_
        refine s_do gt65 ?_
        refine s_val rfl (v_mv lk12) pt67 ?_
        refine s_do gt65 ?_
        refine s_callp (mp1 lk66 (mp1 lk67 (mp1 lkb mp0))) (rsameLines_a (a := (splitL s).1) (b := (splitL (joinV (splitL s).1).1).1) (nums := false)) pt68 ?_
        refine s_val rfl (v_pickT lk65 lk68) pt69 ?_
        refine s_val rfl (v_mv lk69) pt4 ?_
        refine s_nil ?_
        refine n_seq ?_
        refine w_rets ?_
        refine w_ret (rs1 (rr_t gt4)) ?_
        refine rt (by first | rfl | (simp only [AV.lt, AV.ltL, Ent.lt, List.all_cons, List.all_nil, Bool.and_true, Bool.and_self, decide_true, str_lt, ln_lt]; done) | (simp [AV.lt, AV.ltL, Ent.lt, str_lt, ln_lt, *]; done) | (simp [AV.lt, AV.ltL, Ent.lt, str_lt, ln_lt, *]; omega)) ?_
        refine bvx ?_; exact sameLn_false.2 hj4.symm
  · skip
    refine w_skip ?_
    refine n_seq ?_
    refine w_seq ?_
    refine w_reg ?_
    refine s_val rfl (v_mv lk1) pt38 ?_
    refine s_callp (mp1 lk38 mp0) (lnSplit_a (s := s)) pt39 ?_
    refine s_val rfl (v_mv lk39) pt37 ?_
    refine s_val rfl (v_ext lk37 gt0) pt40 ?_
    refine s_val rfl (v_ext lk37 gt1) pt41 ?_
    refine s_val rfl (v_ext lk37 gt2) pt42 ?_
    refine s_val rfl (v_mv lk40) pt10 ?_
    refine s_val rfl (v_mv lk41) pt11 ?_
    refine s_val rfl (v_mv lk42) pt6 ?_
    refine s_nil ?_
    refine n_seq ?_
    refine w_seq ?_
    refine w_seq ?_
    refine w_reg ?_
    refine s_val rfl (v_mv lk6) pt43 ?_
    refine s_val rfl (v_neq lk43 lki) pt44 ?_
    refine s_nil ?_
    refine n_seq ?_
    first | refine w_cond lk44 (fun hc4 => ?_) (fun hc4 => ?_) | refine w_condB lk44 (fun hc4 => ?_) (fun hc4 => ?_)
    · skip
      refine w_seq ?_
      refine w_reg ?_
      refine s_val rfl (v_mv lk10) pt45 ?_
      refine s_val rfl ((by first | exact v_lenL lk45 | exact v_lenO lk45)) pt46 ?_
      refine s_val rfl (v_eql lk46 lki) pt47 ?_
      refine s_val rfl (v_mv lk47) pt4 ?_
      refine s_nil ?_
      refine n_seq ?_
      refine w_rets ?_
      refine r_thn ?_
      refine w_ret (rs1 (rr_t gt4)) ?_
      refine rt (by first | rfl | (simp only [AV.lt, AV.ltL, Ent.lt, List.all_cons, List.all_nil, Bool.and_true, Bool.and_self, decide_true, str_lt, ln_lt]; done) | (simp [AV.lt, AV.ltL, Ent.lt, str_lt, ln_lt, *]; done) | (simp [AV.lt, AV.ltL, Ent.lt, str_lt, ln_lt, *]; omega)) ?_
      refine bvx ?_; rw [splitL_bad hc4]; rfl
    · skip
      refine w_skip ?_
      refine n_seq ?_
      refine w_seq ?_
      refine w_reg ?_
      refine s_val rfl (v_mv lk10) pt49 ?_
      refine s_callp (mp1 lk49 mp0) (lnJoin_a (l := (splitL s).1) ok_split) pt50 ?_
      refine s_val rfl (v_mv lk50) pt48 ?_
      refine s_val rfl (v_ext lk48 gt0) pt51 ?_
      refine s_val rfl (v_ext lk48 gt1) pt52 ?_
      refine s_val rfl (v_mv lk51) pt5 ?_
      refine s_val rfl (v_mv lk52) pt6 ?_
      refine s_nil ?_
      refine n_seq ?_
      refine w_seq ?_
      refine w_seq ?_
      refine w_reg ?_
      refine s_val rfl (v_mv lk6) pt53 ?_
      refine s_val rfl (v_neq lk53 lki) pt54 ?_
      refine s_nil ?_
      refine n_seq ?_
      first | refine w_cond lk54 (fun hc5 => ?_) (fun hc5 => ?_) | refine w_condB lk54 (fun hc5 => ?_) (fun hc5 => ?_)
      · skip
        refine w_seq ?_
        refine w_reg ?_
        refine s_val rfl (v_mv lk6) pt55 ?_
        refine s_val rfl (v_eql lk55 lki) pt56 ?_
        refine s_val rfl (v_mv lk56) pt4 ?_
        refine s_nil ?_
        refine n_seq ?_
        refine w_rets ?_
        refine r_thn ?_
        refine w_ret (rs1 (rr_t gt4)) ?_
        refine rt (by first | rfl | (simp only [AV.lt, AV.ltL, Ent.lt, List.all_cons, List.all_nil, Bool.and_true, Bool.and_self, decide_true, str_lt, ln_lt]; done) | (simp [AV.lt, AV.ltL, Ent.lt, str_lt, ln_lt, *]; done) | (simp [AV.lt, AV.ltL, Ent.lt, str_lt, ln_lt, *]; omega)) ?_
        refine bvx ?_; rw [join_split hc5]; rfl
      · skip
        obtain ⟨hj3, hj4⟩ := split_join (Decidable.of_not_not hc5)
        refine w_skip ?_
        refine n_seq ?_
        refine w_seq ?_
        refine w_reg ?_
        refine s_val rfl (v_mv lk5) pt58 ?_
        refine s_callp (mp1 lk58 mp0) (lnSplit_a (s := (joinV (splitL s).1).1)) pt59 ?_
        refine s_val rfl (v_mv lk59) pt57 ?_
        refine s_val rfl (v_ext lk57 gt0) pt60 ?_
        refine s_val rfl (v_ext lk57 gt1) pt61 ?_
        refine s_val rfl (v_ext lk57 gt2) pt62 ?_
        refine s_val rfl (v_mv lk60) pt12 ?_
        refine s_val rfl (v_mv lk61) pt13 ?_
        refine s_val rfl (v_mv lk62) pt6 ?_
        refine s_nil ?_
        refine n_seq ?_
        refine w_seq ?_
        refine w_reg ?_
        refine s_val rfl (v_mv lk6) pt63 ?_
        refine s_val rfl (v_eql lk63 lki) pt64 ?_
        refine s_val rfl (v_mv lk64) pt65 ?_
        refine s_known gt65 (b := true) (by exact decide_eq_true hj3) pt65 ?_
        refine s_do gt65 ?_
        refine s_val rfl (v_mv lk10) pt66 ?_
        refine s_do gt65 ?_
        refine s_val rfl (v_mv lk12) pt67 ?_
        refine s_do gt65 ?_
        refine s_callp (mp1 lk66 (mp1 lk67 (mp1 lkb mp0))) (rsameLines_a (a := (splitL s).1) (b := (splitL (joinV (splitL s).1).1).1) (nums := false)) pt68 ?_
        refine s_val rfl (v_pickT lk65 lk68) pt69 ?_
        refine s_val rfl (v_mv lk69) pt4 ?_
        refine s_nil ?_
        refine n_seq ?_
        refine w_rets ?_
        refine w_ret (rs1 (rr_t gt4)) ?_
        refine rt (by first | rfl | (simp only [AV.lt, AV.ltL, Ent.lt, List.all_cons, List.all_nil, Bool.and_true, Bool.and_self, decide_true, str_lt, ln_lt]; done) | (simp [AV.lt, AV.ltL, Ent.lt, str_lt, ln_lt, *]; done) | (simp [AV.lt, AV.ltL, Ent.lt, str_lt, ln_lt, *]; omega)) ?_
        refine bvx ?_; exact sameLn_false.2 hj4.symm

set_option maxRecDepth 100000 in
theorem lifted (os : Os) (started : os.Started) (H : Type) (enc : TypeId × Value → H) :
    ReturnsInHanded {} Tryd.checked os 6 .any (fun w args => (Rows.lineBackSpec.pre enc Tryd.prog Tryd.f6 [] false w args ∧ laidMetH Tryd.prog Rows.lineBackRow.laid w) ∧ sizedMet enc Tryd.prog Tryd.f6 (OpenSpec.ofChange Rows.lineBackSpec) false w args) (Rows.lineBackSpec.post enc Tryd.prog Tryd.f6 false true false false) := by
  refine handed_tied (C := Tryd.checked) own started (by kernel_rfl) Tryd.func6
    (ChangeSpec.witness_shaped (enc := enc) (C := Tryd.checked) (os := os) (X := fun w _ => laidMetH Tryd.prog Rows.lineBackRow.laid w) false (World.laidAll Tryd.prog os Rows.lineBackRow.laid) #[.slice none 0 0, .string ⟨#[]⟩] 8 (World.laidAll_os _ _ _)
      (World.shaped_of_ZipB (by kernel_rfl) (by kernel_rfl)) (by kernel_rfl) (by kernel_rfl) (by kernel_rfl)
      (by rw [MakeChecks.laidMetH_plain _ _ _ (by kernel_rfl)]; exact laidMet_laidAll _ (by kernel_rfl) (by kernel_rfl))) ?_
  intro W base args ds gs before hval0 hW0 hsz hL hsh
  have hval : ∀ (j : Nat) t v, Tryd.f6.params[j]? = some t → args[j]? = some v → Value.okWide Tryd.prog W .any base t v := hval0
  have hW := hW0
  obtain ⟨p, q, hA0, _, _, _, _⟩ := hW
  have hA : DataW.TrodAll enc Tryd.prog W 0 (fun _ => true) true Tryd.f6.params.toList args.toList ds p := hA0
  have hG : GlobW W := globW hsh
  have hfin : ∀ W', Below W.heap.size W W' → (∃ d, ds = d) → Rows.lineBackSpec.fn H ds = { results := [.lit (.bool true)], args := ds } → Rows.lineBackSpec.post enc Tryd.prog Tryd.f6 false true false false W args (.bool true) W' :=
    fun W' hb _ hs => law_post laidOut (by kernel_rfl) rfl Tryd.underlying4 rfl hs hW0 hb
--
  obtain ⟨v0, vs0, d0, ds0, p0, q0, hargs, rfl, rfl, h0, r0⟩ := trodAll_cons hA
  obtain ⟨v1, vs1, d1, ds1, p1, q1, rfl, rfl, rfl, h1, r1⟩ := trodAll_cons r0
  obtain ⟨rfl, rfl, rfl⟩ := trodAll_nil r1
  obtain rfl : args = #[v0, v1] := by cases args; simp_all
  obtain ⟨l, hl, k0⟩ := arg_slice LnD Tryd.underlying23 (by kernel_rfl) (hval 0 23 _ rfl rfl) h0
  obtain ⟨s, hs, k1⟩ := arg_str Tryd.underlying9 (hval 1 9 _ rfl rfl) h1
  refine (law_calls (walk (okLns_of hl)) hG (repL1 k0 (repL1 k1 repL0))).mono fun e W' ⟨he, hb⟩ => ?_
  subst he
  exact ⟨_, rfl, hfin W' hb ⟨_, rfl⟩ rfl⟩

theorem row : Rows.LineBackSaid :=
  OpenClaim.holds_of_wide 6 Tryd.f6 rfl rfl rfl rfl rfl rfl rfl ⟨rfl, rfl, rfl, rfl, rfl⟩ rfl rfl rfl rfl rfl (by kernel_rfl) Tryd.func6 (by kernel_rfl)
    (of_decide_eq_true (by kernel_rfl)) (by unfold Func.isWrapper; first | (rw [if_pos (by decide +kernel)]; kernel_rfl) | (rw [if_neg (by decide +kernel)]; exact ⟨rfl, rfl⟩))
    (fun os started H enc _ => lifted os started H enc)
theorem proved : Rows.LineBackCardSaid :=
  Claim7.holds_tied_plain_at .later [] Rows.lineBackCard.laidKinds Rows.lineBackCard.laidTests Rows.lineBackCard.stood.harness Rows.lineBackCard.stood.looks
    row (fun _ h => by cases h) (by kernel_rfl) (fun _ h => by cases h) lineBack_row_tie rfl ⟨rfl, rfl⟩ (by kernel_rfl) rfl
    (fun f fn hf hfn => by
      obtain rfl : f = 6 := Option.some.inj ((show Tryd.prog.funcNamed "dateline/datelinelaw.LineBack" = some 6 by kernel_rfl).symm.trans hf) |>.symm
      obtain rfl : fn = Tryd.f6 := (Option.some.inj (Tryd.func6.symm.trans hfn)).symm
      exact ⟨by kernel_rfl, fun j t ht => by
        have hm : t ∈ Tryd.f6.params.toList := Array.mem_toList_iff.2 (Array.mem_of_getElem? ht)
        have hall : (Tryd.f6.params.toList.all fun u => !Tryd.prog.wantsStandIn u) = true := by kernel_rfl
        exact (show Tryd.prog.wantsStandIn t = false by simpa using List.all_eq_true.1 hall t hm)⟩)
    (by kernel_rfl)

end Go.Proofs.YtgjchdhdopgkkaaDoor.lineBack
