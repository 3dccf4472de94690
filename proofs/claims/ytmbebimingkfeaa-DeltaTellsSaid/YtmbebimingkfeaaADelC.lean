/-
  Contracts on plain data: slices.Grow and slices.Concat of changes. Conditions: lists are no longer than memory allows.
-/
import Derived.Test.YtmbebimingkfeaaADelB
set_option linter.unusedVariables false
set_option linter.unusedSimpArgs false
set_option maxRecDepth 100000
namespace Go.Proofs.Ytmbebimingkfeaa
open Go.Ab Civ
/-- slices.Grow[[]api.Change,api.Change] -/
def c80 : AC := (.seq (.reg [⟨(some 4), none, (.mv (.const (.slice none 0 0)))⟩]) (.seq (.seq (.reg [⟨(some 5), none, (.mv (.tmp 1))⟩, ⟨(some 6), none, (.bin .lss (.tmp 5) (.const (.int .i64 0)))⟩]) (.cond (.tmp 6) (.reg [⟨(some 7), none, (.mkif 9 (.const (.string ⟨#[99, 97, 110, 110, 111, 116, 32, 98, 101, 32, 110, 101, 103, 97, 116, 105, 118, 101]⟩)))⟩, ⟨none, none, (.panic (.tmp 7))⟩]) .skip)) (.seq (.seq (.reg [⟨(some 8), none, (.mv (.tmp 1))⟩, ⟨(some 9), none, (.mv (.tmp 0))⟩, ⟨(some 10), none, (.cap (.tmp 9))⟩, ⟨(some 11), none, (.mv (.tmp 0))⟩, ⟨(some 12), none, (.len false (.tmp 11))⟩, ⟨(some 13), none, (.bin .sub (.tmp 10) (.tmp 12))⟩, ⟨(some 14), none, (.bin .sub (.tmp 8) (.tmp 13))⟩, ⟨(some 1), none, (.mv (.tmp 14))⟩]) (.seq (.reg [⟨(some 15), none, (.mv (.tmp 1))⟩, ⟨(some 16), none, (.bin .gtr (.tmp 15) (.const (.int .i64 0)))⟩]) (.cond (.tmp 16) (.reg [⟨(some 17), none, (.mv (.tmp 0))⟩, ⟨(some 18), none, (.mv (.tmp 0))⟩, ⟨(some 19), none, (.cap (.tmp 18))⟩, ⟨(some 20), none, (.slc 4 (.tmp 17) none (some (.tmp 19)) none)⟩, ⟨(some 21), none, (.mv (.tmp 1))⟩, ⟨(some 22), none, (.appz 46 4 40 (.tmp 20) (.tmp 21))⟩, ⟨(some 23), none, (.mv (.tmp 0))⟩, ⟨(some 24), none, (.len false (.tmp 23))⟩, ⟨(some 25), none, (.slc 4 (.tmp 22) none (some (.tmp 24)) none)⟩, ⟨(some 0), none, (.mv (.tmp 25))⟩]) .skip))) (.seq (.reg [⟨(some 26), none, (.mv (.tmp 0))⟩, ⟨(some 4), none, (.mv (.tmp 26))⟩]) .ret))))
theorem k80 : compF Try.prog 80 = some ⟨c80, [(.tmp 4)], 27⟩ := by kernel_rfl
theorem i80 {a0 a1 : AV} {h : AH} {R : AE → Prop} (hw : ∀ n, h.length = n → (∀ e ∈ h, e.lt n = true) → AV.ltL n [a0, a1] = true → AV.bdL [a0, a1] → aw Try.prog n c80 (retA [(.tmp 4)] fun x h' => ∃ z, h' = h ++ z ∧ x.lt n = true ∧ R x) [a0, a1, .any, .any, .any, .any, .any, .any, .any, .any, .any, .any, .any, .any, .any, .any, .any, .any, .any, .any, .any, .any, .any, .any, .any, .any, .any] (h ++ [])) : ACalls Try.prog 80 [a0, a1] h fun x h' => h' = h ∧ R x := ACalls.into k80 rfl hw
theorem w80 {a0 a1 : AV} {h : AH} {res : AV} (hw : ∀ n, h.length = n → (∀ e ∈ h, e.lt n = true) → AV.ltL n [a0, a1] = true → AV.bdL [a0, a1] → aw Try.prog n c80 (retA [(.tmp 4)] fun x h' => ∃ z, h' = h ++ z ∧ x.lt n = true ∧ ∃ c, x = .ret c ∧ Wk c res) [a0, a1, .any, .any, .any, .any, .any, .any, .any, .any, .any, .any, .any, .any, .any, .any, .any, .any, .any, .any, .any, .any, .any, .any, .any, .any, .any] (h ++ [])) : ACalls Try.prog 80 [a0, a1] h fun x h' => h' = h ∧ x = .ret res := ACalls.weak (ACalls.into k80 rfl hw)
theorem n80 {a0 a1 : AV} {h : AH} {R : AE → AH → Prop} (hw : ∀ n, h.length = n → (∀ e ∈ h, e.lt n = true) → AV.ltL n [a0, a1] = true → AV.bdL [a0, a1] → aw Try.prog n c80 (retA [(.tmp 4)] R) [a0, a1, .any, .any, .any, .any, .any, .any, .any, .any, .any, .any, .any, .any, .any, .any, .any, .any, .any, .any, .any, .any, .any, .any, .any, .any, .any] (h ++ [])) : ACalls Try.prog 80 [a0, a1] h R := ACalls.intoN k80 rfl hw
theorem j80 {a0 a1 : AV} {h : AH} {R : AE → AH → Prop} (hw : ∀ n, h.length = n → (∀ e ∈ h, e.lt n = true) → AV.ltL n [a0, a1] = true → AV.bdL [a0, a1] → aw Try.prog n c80 (retA [(.tmp 4)] fun x h' => ∃ y z, h' = y ++ z ∧ y.length = n ∧ (∀ e ∈ y, e.lt n = true) ∧ x.lt n = true ∧ R x y) [a0, a1, .any, .any, .any, .any, .any, .any, .any, .any, .any, .any, .any, .any, .any, .any, .any, .any, .any, .any, .any, .any, .any, .any, .any, .any, .any] (h ++ [])) : ACalls Try.prog 80 [a0, a1] h R := ACalls.intoG k80 rfl hw
/-- slices.Concat[[]api.Change,api.Change] -/
def c62 : AC := (.seq (.reg [⟨(some 2), none, (.mv (.const (.slice none 0 0)))⟩]) (.seq (.reg [⟨(some 3), none, (.mv (.const (.int .i64 0)))⟩]) (.seq (.seq (.reg [⟨(some 9), none, (.mv (.tmp 0))⟩, ⟨(some 10), none, (.len false (.tmp 9))⟩, ⟨(some 11), none, (.mv (.const (.int .i64 0)))⟩]) (.block 0 (.loop (.seq (.reg [⟨(some 12), none, (.bin .lss (.tmp 11) (.tmp 10))⟩]) (.seq (.cond (.tmp 12) .skip (.exit 0)) (.seq (.block 1 (.seq (.reg [⟨(some 13), none, (.ia 1 (.tmp 9) (.tmp 11))⟩, ⟨(some 14), none, (.load false 1 (.tmp 13))⟩, ⟨(some 5), none, (.mv (.tmp 14))⟩]) (.seq (.reg [⟨(some 15), none, (.mv (.tmp 3))⟩, ⟨(some 16), none, (.mv (.tmp 5))⟩, ⟨(some 17), none, (.len false (.tmp 16))⟩, ⟨(some 18), none, (.bin .add (.tmp 15) (.tmp 17))⟩, ⟨(some 3), none, (.mv (.tmp 18))⟩]) (.seq (.reg [⟨(some 19), none, (.mv (.tmp 3))⟩, ⟨(some 20), none, (.bin .lss (.tmp 19) (.const (.int .i64 0)))⟩]) (.cond (.tmp 20) (.reg [⟨(some 21), none, (.mkif 9 (.const (.string ⟨#[108, 101, 110, 32, 111, 117, 116, 32, 111, 102, 32, 114, 97, 110, 103, 101]⟩)))⟩, ⟨none, none, (.panic (.tmp 21))⟩]) .skip))))) (.reg [⟨(some 22), none, (.bin .add (.tmp 11) (.const (.int .i64 1)))⟩, ⟨(some 11), none, (.mv (.tmp 22))⟩]))))))) (.seq (.reg [⟨(some 23), none, (.mv (.tmp 3))⟩, ⟨(some 24), none, (.call (.func 80) [(.const (.slice none 0 0)), (.tmp 23)])⟩, ⟨(some 6), none, (.mv (.tmp 24))⟩]) (.seq (.seq (.reg [⟨(some 25), none, (.mv (.tmp 0))⟩, ⟨(some 26), none, (.len false (.tmp 25))⟩, ⟨(some 27), none, (.mv (.const (.int .i64 0)))⟩]) (.block 2 (.loop (.seq (.reg [⟨(some 28), none, (.bin .lss (.tmp 27) (.tmp 26))⟩]) (.seq (.cond (.tmp 28) .skip (.exit 2)) (.seq (.block 3 (.seq (.reg [⟨(some 29), none, (.ia 1 (.tmp 25) (.tmp 27))⟩, ⟨(some 30), none, (.load false 1 (.tmp 29))⟩, ⟨(some 8), none, (.mv (.tmp 30))⟩]) (.reg [⟨(some 31), none, (.mv (.tmp 6))⟩, ⟨(some 32), none, (.mv (.tmp 8))⟩, ⟨(some 33), none, (.app 46 4 40 (.tmp 31) (.tmp 32))⟩, ⟨(some 6), none, (.mv (.tmp 33))⟩]))) (.reg [⟨(some 34), none, (.bin .add (.tmp 27) (.const (.int .i64 1)))⟩, ⟨(some 27), none, (.mv (.tmp 34))⟩]))))))) (.seq (.reg [⟨(some 35), none, (.mv (.tmp 6))⟩, ⟨(some 2), none, (.mv (.tmp 35))⟩]) .ret))))))
theorem k62 : compF Try.prog 62 = some ⟨c62, [(.tmp 2)], 36⟩ := by kernel_rfl
theorem i62 {a0 : AV} {h : AH} {R : AE → Prop} (hw : ∀ n, h.length = n → (∀ e ∈ h, e.lt n = true) → AV.ltL n [a0] = true → AV.bdL [a0] → aw Try.prog n c62 (retA [(.tmp 2)] fun x h' => ∃ z, h' = h ++ z ∧ x.lt n = true ∧ R x) [a0, .any, .any, .any, .any, .any, .any, .any, .any, .any, .any, .any, .any, .any, .any, .any, .any, .any, .any, .any, .any, .any, .any, .any, .any, .any, .any, .any, .any, .any, .any, .any, .any, .any, .any, .any] (h ++ [])) : ACalls Try.prog 62 [a0] h fun x h' => h' = h ∧ R x := ACalls.into k62 rfl hw
theorem w62 {a0 : AV} {h : AH} {res : AV} (hw : ∀ n, h.length = n → (∀ e ∈ h, e.lt n = true) → AV.ltL n [a0] = true → AV.bdL [a0] → aw Try.prog n c62 (retA [(.tmp 2)] fun x h' => ∃ z, h' = h ++ z ∧ x.lt n = true ∧ ∃ c, x = .ret c ∧ Wk c res) [a0, .any, .any, .any, .any, .any, .any, .any, .any, .any, .any, .any, .any, .any, .any, .any, .any, .any, .any, .any, .any, .any, .any, .any, .any, .any, .any, .any, .any, .any, .any, .any, .any, .any, .any, .any] (h ++ [])) : ACalls Try.prog 62 [a0] h fun x h' => h' = h ∧ x = .ret res := ACalls.weak (ACalls.into k62 rfl hw)
theorem n62 {a0 : AV} {h : AH} {R : AE → AH → Prop} (hw : ∀ n, h.length = n → (∀ e ∈ h, e.lt n = true) → AV.ltL n [a0] = true → AV.bdL [a0] → aw Try.prog n c62 (retA [(.tmp 2)] R) [a0, .any, .any, .any, .any, .any, .any, .any, .any, .any, .any, .any, .any, .any, .any, .any, .any, .any, .any, .any, .any, .any, .any, .any, .any, .any, .any, .any, .any, .any, .any, .any, .any, .any, .any, .any] (h ++ [])) : ACalls Try.prog 62 [a0] h R := ACalls.intoN k62 rfl hw
theorem j62 {a0 : AV} {h : AH} {R : AE → AH → Prop} (hw : ∀ n, h.length = n → (∀ e ∈ h, e.lt n = true) → AV.ltL n [a0] = true → AV.bdL [a0] → aw Try.prog n c62 (retA [(.tmp 2)] fun x h' => ∃ y z, h' = y ++ z ∧ y.length = n ∧ (∀ e ∈ y, e.lt n = true) ∧ x.lt n = true ∧ R x y) [a0, .any, .any, .any, .any, .any, .any, .any, .any, .any, .any, .any, .any, .any, .any, .any, .any, .any, .any, .any, .any, .any, .any, .any, .any, .any, .any, .any, .any, .any, .any, .any, .any, .any, .any, .any] (h ++ [])) : ACalls Try.prog 62 [a0] h R := ACalls.intoG k62 rfl hw
theorem grow_a {m : Nat} {h : AH} (hm : m ≤ 3000000000000) : ACalls Try.prog 80 [.sl 0 0 true [], iv (m : Int)] h fun r h' => ∃ v, r = .ret (.own h.length v 0) ∧ h' = h ++ [.mk v 46 4 []] := by
  refine ACalls.wk (wkw (Wk.nil (st' := 4)) (wk1 rfl wk0)) ?_
  refine n80 ?_
  intro N hn hlt hlA hbd
  try simp only [AV.bdL, AV.bd, and_true, true_and] at hbd
  refine w_seq ?_
  refine w_reg ?_
  refine s_val rfl (v_mv lkn) pt4 ?_
  refine s_nil ?_
  refine n_seq ?_
  refine w_seq ?_
  refine w_seq ?_
  refine w_reg ?_
  refine s_val rfl (v_mv lk1) pt5 ?_
  refine s_val rfl (v_lss lk5 lki) pt6 ?_
  refine s_nil ?_
  refine n_seq ?_
  refine w_condKF lk6 (by exact decide_eq_false (by omega)) ?_
  refine w_skip ?_
  refine n_seq ?_
  refine w_seq ?_
  refine w_seq ?_
  refine w_reg ?_
  refine s_val rfl (v_mv lk1) pt8 ?_
  refine s_val rfl (v_mv lk0) pt9 ?_
  refine s_val rfl (v_cap lk9) pt10 ?_
  refine s_val rfl (v_mv lk0) pt11 ?_
  refine s_val rfl (v_lenL lk11) pt12 ?_
  refine s_val rfl (v_sub lk10 lk12 (by omega) (by omega)) pt13 ?_
  refine s_val rfl (v_sub lk8 lk13 (by omega) (by omega)) pt14 ?_
  refine s_val rfl (v_mv lk14) pt1 ?_
  refine s_nil ?_
  refine n_seq ?_
  refine w_seq ?_
  refine w_reg ?_
  refine s_val rfl (v_mv lk1) pt15 ?_
  refine s_val rfl (v_gtr lk15 lki) pt16 ?_
  refine s_nil ?_
  refine n_seq ?_
  first | refine w_cond lk16 (fun hc2 => ?_) (fun hc2 => ?_) | refine w_condB lk16 (fun hc2 => ?_) (fun hc2 => ?_)
  · skip
    refine w_reg ?_
    refine s_val rfl (v_mv lk0) pt17 ?_
    refine s_val rfl (v_mv lk0) pt18 ?_
    refine s_val rfl (v_cap lk18) pt19 ?_
    refine s_val rfl (v_slc lk17 on_ (oi lk19) (by omega) (by omega) (by omega)) pt20 ?_
    refine s_val rfl (v_mv lk1) pt21 ?_
    refine s_eff rfl rfl (e_appz lk20 lk21 (by omega) (Nat.le_of_ble_eq_true rfl) (Nat.le_of_ble_eq_true rfl) (by omega) (hl0 hn) ha0) pt22 ?_
    refine s_val rfl (v_mv lk0) pt23 ?_
    refine s_val rfl (v_lenL lk23) pt24 ?_
    refine s_val rfl (v_hiO (m := 0) lk22 lk24 (by first | rfl | omega) (by omega)) pt25 ?_
    refine s_val rfl (v_mv lk25) pt0 ?_
    refine s_nil ?_
    refine n_seq ?_
    refine w_seq ?_
    refine w_reg ?_
    refine s_val rfl (v_mv lk0) pt26 ?_
    refine s_val rfl (v_mv lk26) pt4 ?_
    refine s_nil ?_
    refine n_seq ?_
    refine w_rets ?_
    refine w_ret (rs1 (rr_t gt4)) ?_
    exact ⟨_, by simp [hn]; rfl, by simp⟩
  · skip
    refine w_skip ?_
    refine n_seq ?_
    refine w_seq ?_
    refine w_reg ?_
    refine s_val rfl (v_mv lk0) pt26 ?_
    refine s_val rfl (v_mv lk26) pt4 ?_
    refine s_nil ?_
    refine n_seqw (ALe.own0 (d := 4) (st' := 4) (ty := 46) rfl) ?_
    refine w_rets ?_
    refine w_ret (rs1 (rr_t gt4)) ?_
    exact ⟨_, by simp [hn]; rfl, by simp⟩
abbrev chSC (l : List Chg) : List AV := [chS l]
theorem chs_lt {n : Nat} (l : List (List Chg)) : AV.ltL n (rows chSC l) = true := rows_lt (fun n x => by simp [AV.ltL, AV.lt, chg_lt]) l
theorem chs_len1 : ∀ x, (chSC x).length = 1 := fun _ => rfl
theorem concat_a {ls : List (List Chg)} {full : Bool} {h : AH} (hm : ls.flatten.length ≤ 3000000000000) : ACalls Try.prog 62 [.sl ls.length 1 full (rows chSC ls)] h fun x h' => h' = h ∧ x = .ret (chS ls.flatten) := by
  have hpre : ∀ k, (ls.take k).flatten.length ≤ ls.flatten.length := fun k => by
    conv => rhs; rw [← List.take_append_drop k ls]
    rw [List.flatten_append, List.length_append]; omega
  have hst : ∀ k (hk : k < ls.length), (ls.take (k + 1)).flatten = (ls.take k).flatten ++ ls[k] := fun k hk => by rw [List.take_succ_eq_append_getElem hk, List.flatten_append, List.flatten_cons, List.flatten_nil, List.append_nil]
  have hls : ∀ k (hk : k < ls.length), (ls.take k).flatten.length + ls[k].length ≤ ls.flatten.length := fun k hk => by
    have := hpre (k + 1); rw [hst k hk, List.length_append] at this; exact this
  refine i62 ?_
  intro N hn hlt hlA hbd
  try simp only [AV.bdL, AV.bd, and_true, true_and] at hbd
  refine w_seq ?_
  refine w_reg ?_
  refine s_val rfl (v_mv lkn) pt2 ?_
  refine s_nil ?_
  refine n_seq ?_
  refine w_seq ?_
  refine w_reg ?_
  refine s_val rfl (v_mv lki) pt3 ?_
  refine s_nil ?_
  refine n_seq ?_
  refine w_seq ?_
  refine w_seq ?_
  refine w_reg ?_
  refine s_val rfl (v_mv lk0) pt9 ?_
  refine s_val rfl (v_lenL lk9) pt10 ?_
  refine s_val rfl (v_mv lki) pt11 ?_
  refine s_nil ?_
  refine n_seq ?_
  refine w_block ?_
  refine w_loop (ι := Nat) (fun (k : Nat) => [(3, iv ((ls.take k).flatten.length : Int)), (11, iv (k : Int)), (5, .any), (12, .any), (13, .any), (14, .any), (15, .any), (16, .any), (17, .any), (18, .any), (19, .any), (20, .any), (21, .any), (22, .any)]) (fun (k : Nat) => []) (fun (k : Nat) => k ≤ ls.length) (fun (k : Nat) => ls.length - k) (0) (by omega) (by try simp only [setsT, setsE, List.set_cons_zero, List.set_cons_succ]; exact ALe.same (wk1 rfl (wk1 rfl (wk1 rfl (wk1 (by first | rfl | exact ivx (by omega) | (simp; done)) (wk1 rfl (wka (wk1 rfl (wk1 rfl (wk1 rfl (wk1 rfl (wk1 rfl (wk1 (by first | rfl | exact ivx (by omega) | (simp; done)) (wka (wka (wka (wka (wka (wka (wka (wka (wka (wka (wka (wk1 rfl (wk1 rfl (wk1 rfl (wk1 rfl (wk1 rfl (wk1 rfl (wk1 rfl (wk1 rfl (wk1 rfl (wk1 rfl (wk1 rfl (wk1 rfl (wk1 rfl wk0)))))))))))))))))))))))))))))))))))) rfl) ?_
  rintro k hi1
  try simp only [setsT, setsE, List.set_cons_zero, List.set_cons_succ]
  refine w_seq ?_
  refine w_reg ?_
  refine s_val rfl (v_lss lk11 lk10) pt12 ?_
  refine s_nil ?_
  refine n_seq ?_
  refine w_seq ?_
  first | refine w_cond lk12 (fun hc1 => ?_) (fun hc1 => ?_) | refine w_condB lk12 (fun hc1 => ?_) (fun hc1 => ?_)
  · skip
    have hk : k < ls.length := by omega
    have hkl := hls k hk
    refine w_skip ?_
    refine n_seq ?_
    refine w_seq ?_
    refine w_block ?_
    refine w_seq ?_
    refine w_reg ?_
    refine s_val rfl (v_iaR lk9 lk11 chs_len1 (Nat.le_of_ble_eq_true rfl) (by first | rfl | omega) (by omega) (by first | rfl | omega) rfl) pt13 ?_
    refine s_val rfl (v_loadr lk13 gt0) pt14 ?_
    refine s_val rfl (v_mv lk14) pt5 ?_
    refine s_nil ?_
    refine n_seq ?_
    refine w_seq ?_
    refine w_reg ?_
    refine s_val rfl (v_mv lk3) pt15 ?_
    refine s_val rfl (v_mv lk5) pt16 ?_
    refine s_val rfl ((by first | exact v_lenL lk16 | exact v_lenO lk16)) pt17 ?_
    refine s_val rfl (v_add lk15 lk17 (by omega) (by omega)) pt18 ?_
    refine s_val rfl (v_mv lk18) pt3 ?_
    refine s_nil ?_
    refine n_seq ?_
    refine w_seq ?_
    refine w_reg ?_
    refine s_val rfl (v_mv lk3) pt19 ?_
    refine s_val rfl (v_lss lk19 lki) pt20 ?_
    refine s_nil ?_
    refine n_seq ?_
    refine w_condKF lk20 (by exact decide_eq_false (by omega)) ?_
    refine w_skip ?_
    refine n_blk ?_
    refine n_seq ?_
    refine w_reg ?_
    refine s_val rfl (v_add lk11 lki (by omega) (by omega)) pt22 ?_
    refine s_val rfl (v_mv lk22) pt11 ?_
    refine s_nil ?_
    refine n_thn ?_
    refine LoopTo.mk (k + 1) (by omega) (by omega) (by (try dsimp only); (try simp only [setsT, setsE, List.set_cons_zero, List.set_cons_succ]); exact ALe.same (wk1 rfl (wk1 rfl (wk1 rfl (wk1 (by first | rfl | exact ivx (by omega) | exact ivx (by rw [hst k hk, List.length_append]; omega) | (simp; done)) (wk1 rfl (wka (wk1 rfl (wk1 rfl (wk1 rfl (wk1 rfl (wk1 rfl (wk1 (by first | rfl | exact ivx (by omega) | exact ivx (by rw [hst k hk, List.length_append]; omega) | (simp; done)) (wka (wka (wka (wka (wka (wka (wka (wka (wka (wka (wka (wk1 rfl (wk1 rfl (wk1 rfl (wk1 rfl (wk1 rfl (wk1 rfl (wk1 rfl (wk1 rfl (wk1 rfl (wk1 rfl (wk1 rfl (wk1 rfl (wk1 rfl wk0)))))))))))))))))))))))))))))))))))) rfl)
  · skip
    refine w_exit ?_
    refine x_thn ?_
    refine x_thn ?_
    refine x_blk ?_
    refine n_seq ?_
    refine w_seq ?_
    refine w_reg ?_
    refine s_val rfl (v_mv lk3) pt23 ?_
    refine s_calla (mp1 lkn (mp1 lk23 mp0)) (grow_a (Nat.le_trans (hpre _) hm)) (hl0 hn) (fun _ => ha0) (fun _ => pt24) (fun va22 => ?_)
    refine s_val rfl (v_mv lk24) pt6 ?_
    refine s_nil ?_
    refine n_seq ?_
    refine w_seq ?_
    refine w_seq ?_
    refine w_reg ?_
    refine s_val rfl (v_mv lk0) pt25 ?_
    refine s_val rfl (v_lenL lk25) pt26 ?_
    refine s_val rfl (v_mv lki) pt27 ?_
    refine s_nil ?_
    refine n_seq ?_
    refine w_block ?_
    refine w_loop (ι := Nat × Nat) (fun (x_ : Nat × Nat) => match x_ with | ⟨k, v⟩ => [(6, .own (N + 0) v (ls.take k).flatten.length), (27, iv (k : Int)), (8, .any), (28, .any), (29, .any), (30, .any), (31, .any), (32, .any), (33, .any), (34, .any)]) (fun (x_ : Nat × Nat) => match x_ with | ⟨k, v⟩ => [(0, .mk v 46 4 (rows chgC (ls.take k).flatten))]) (fun (x_ : Nat × Nat) => match x_ with | ⟨k, v⟩ => k ≤ ls.length) (fun (x_ : Nat × Nat) => match x_ with | ⟨k, v⟩ => ls.length - k) (⟨0, va22⟩) (by exact Nat.zero_le _) (by try simp only [setsT, setsE, List.set_cons_zero, List.set_cons_succ]; exact ALe.same (wk1 rfl (wk1 rfl (wk1 rfl (wk1 rfl (wk1 rfl (wk1 rfl (wk1 (by first | rfl | exact ivx (by omega) | (simp; done)) (wk1 rfl (wka (wk1 rfl (wk1 rfl (wk1 rfl (wk1 rfl (wk1 rfl (wk1 rfl (wk1 rfl (wk1 rfl (wk1 rfl (wk1 rfl (wk1 rfl (wk1 rfl (wk1 rfl (wk1 rfl (wk1 rfl (wk1 rfl (wk1 rfl (wk1 rfl (wk1 (by first | rfl | exact ivx (by omega) | (simp; done)) (wka (wka (wka (wka (wka (wka (wka (wk1 rfl wk0)))))))))))))))))))))))))))))))))))) rfl) ?_
    rintro ⟨k, v⟩ hi2
    try simp only [setsT, setsE, List.set_cons_zero, List.set_cons_succ]
    refine w_seq ?_
    refine w_reg ?_
    refine s_val rfl (v_lss lk27 lk26) pt28 ?_
    refine s_nil ?_
    refine n_seq ?_
    refine w_seq ?_
    first | refine w_cond lk28 (fun hc3 => ?_) (fun hc3 => ?_) | refine w_condB lk28 (fun hc3 => ?_) (fun hc3 => ?_)
    · skip
      have hk : k < ls.length := by omega
      have hkl := hls k hk
      refine w_skip ?_
      refine n_seq ?_
      refine w_seq ?_
      refine w_block ?_
      refine w_seq ?_
      refine w_reg ?_
      refine s_val rfl (v_iaR lk25 lk27 chs_len1 (Nat.le_of_ble_eq_true rfl) (by first | rfl | omega) (by omega) (by first | rfl | omega) rfl) pt29 ?_
      refine s_val rfl (v_loadr lk29 gt0) pt30 ?_
      refine s_val rfl (v_mv lk30) pt8 ?_
      refine s_nil ?_
      refine n_seq ?_
      refine w_reg ?_
      refine s_val rfl (v_mv lk6) pt31 ?_
      refine s_val rfl (v_mv lk8) pt32 ?_
      refine s_eff rfl rfl (e_app (sc_sl lk32 (chg_len _)) lk31 (hga hn rfl) (chg_len _) (by omega) (chg_leaf _) (hs0 hn)) pt33 ?_
      refine s_val rfl (v_mv lk33) pt6 ?_
      refine s_nil ?_
      refine n_blk ?_
      refine n_seq ?_
      refine w_reg ?_
      refine s_val rfl (v_add lk27 lki (by omega) (by omega)) pt34 ?_
      refine s_val rfl (v_mv lk34) pt27 ?_
      refine s_nil ?_
      refine n_thn ?_
      refine LoopTo.mk (⟨k + 1, v + 1⟩) (by omega) (by exact hk) (by (try dsimp only); (try simp only [setsT, setsE, List.set_cons_zero, List.set_cons_succ]); exact ALe.same (wk1 rfl (wk1 rfl (wk1 rfl (wk1 rfl (wk1 rfl (wk1 rfl (wk1 (by first | rfl | exact ivx (by omega) | (rw [hst k hk, List.length_append]; done) | (simp; done)) (wk1 rfl (wka (wk1 rfl (wk1 rfl (wk1 rfl (wk1 rfl (wk1 rfl (wk1 rfl (wk1 rfl (wk1 rfl (wk1 rfl (wk1 rfl (wk1 rfl (wk1 rfl (wk1 rfl (wk1 rfl (wk1 rfl (wk1 rfl (wk1 rfl (wk1 rfl (wk1 (by first | rfl | exact ivx (by omega) | (rw [hst k hk, List.length_append]; done) | (simp; done)) (wka (wka (wka (wka (wka (wka (wka (wk1 rfl wk0)))))))))))))))))))))))))))))))))))) (by rw [hst k hk, rows_app]))
    · skip
      refine w_exit ?_
      refine x_thn ?_
      refine x_thn ?_
      refine x_blk ?_
      refine n_seq ?_
      refine w_seq ?_
      refine w_reg ?_
      refine s_val rfl (v_mv lk6) pt35 ?_
      refine s_val rfl (v_mv lk35) pt2 ?_
      refine s_nil ?_
      skip
      refine n_seqw (ALe.iceR (hga hn rfl) gt2 (List.take_of_length_le (by rw [chg_len]; exact Nat.le_refl _)) (by rw [chg_len]; exact Nat.le_refl _) pt2 (hs0 hn)) ?_
      refine w_rets ?_
      refine w_ret (rs1 (rr_t gt2)) ?_
      refine rt (by first | rfl | (simp only [AV.lt, AV.ltL, Ent.lt, List.all_cons, List.all_nil, Bool.and_true, Bool.and_self, decide_true, chg_lt, chs_lt]; done) | (simp [AV.lt, AV.ltL, Ent.lt, chg_lt, chs_lt, *]; done) | (simp [AV.lt, AV.ltL, Ent.lt, chg_lt, chs_lt, *]; omega)) ?_
      rw [List.take_of_length_le (show ls.length ≤ k by omega)]
end Go.Proofs.Ytmbebimingkfeaa
