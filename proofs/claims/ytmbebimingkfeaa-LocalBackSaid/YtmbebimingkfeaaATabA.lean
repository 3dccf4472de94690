/-
  Contracts of delta.common and datelineref.SameTable on plain data. No condition.
-/
import Derived.Test.YtmbebimingkfeaaAbsE
import Derived.Test.YtmbebimingkfeaaAPlain
set_option linter.unusedVariables false
set_option linter.unusedSimpArgs false
set_option maxRecDepth 100000
namespace Go.Proofs.Ytmbebimingkfeaa
open Go.Ab Civ
section
theorem ATabA_tk_4 {a0 a1 a2 a3 : AV} {l : List AV} : (a0 :: a1 :: a2 :: a3 :: l).take 4 = [a0, a1, a2, a3] := rfl
theorem ATabA_eq_iiis {a0 b0 : Int} {a1 b1 : Int} {a2 b2 : Int} {a3 b3 : ByteArray} : eqCells [.int, .int, .int, .str] [iv a0, iv a1, iv a2, sv a3] [iv b0, iv b1, iv b2, sv b3] = some (decide (a0 = b0 ∧ a1 = b1 ∧ a2 = b2 ∧ a3 = b3)) := by
  simp only [eqCells, eqLeaf, if_true, bytes_beq, Option.some.injEq]
  simp only [Bool.decide_and, Bool.and_true]
  try (congr 1 <;> simp)
  try rfl
end
/-- delta.common -/
def c63 : AC := (.seq (.reg [⟨(some 4), none, (.mv (.const (.int .i64 0)))⟩]) (.seq (.reg [⟨(some 5), none, (.mv (.const (.int .i64 0)))⟩]) (.seq (.block 0 (.loop (.seq (.seq (.drw [⟨(some 6), none, (.mv (.tmp 5))⟩, ⟨(some 7), none, (.mv (.tmp 0))⟩, ⟨(some 8), none, (.len false (.tmp 7))⟩, ⟨(some 9), none, (.bin .lss (.tmp 6) (.tmp 8))⟩, ⟨(some 10), none, (.mv (.tmp 9))⟩, ⟨(some 11), (some (10, true)), (.mv (.tmp 5))⟩, ⟨(some 12), (some (10, true)), (.mv (.tmp 1))⟩, ⟨(some 13), (some (10, true)), (.len false (.tmp 12))⟩, ⟨(some 14), (some (10, true)), (.bin .lss (.tmp 11) (.tmp 13))⟩, ⟨(some 15), none, (.pick (.tmp 10) (.tmp 14) (.const (.bool false)))⟩, ⟨(some 16), none, (.mv (.tmp 15))⟩, ⟨(some 17), (some (16, true)), (.mv (.tmp 0))⟩, ⟨(some 18), (some (16, true)), (.mv (.tmp 5))⟩, ⟨(some 19), (some (16, true)), (.ia 4 (.tmp 17) (.tmp 18))⟩, ⟨(some 20), (some (16, true)), (.load true 4 (.tmp 19))⟩, ⟨(some 21), (some (16, true)), (.mv (.tmp 1))⟩, ⟨(some 22), (some (16, true)), (.mv (.tmp 5))⟩, ⟨(some 23), (some (16, true)), (.ia 4 (.tmp 21) (.tmp 22))⟩, ⟨(some 24), (some (16, true)), (.load true 4 (.tmp 23))⟩, ⟨(some 25), (some (16, true)), (.eqs false [.int, .int, .int, .str] (.tmp 20) (.tmp 24))⟩, ⟨(some 26), none, (.pick (.tmp 16) (.tmp 25) (.const (.bool false)))⟩] [] []) (.cond (.tmp 26) .skip (.exit 0))) (.block 1 (.reg [⟨(some 27), none, (.mv (.tmp 5))⟩, ⟨(some 28), none, (.bin .add (.tmp 27) (.const (.int .i64 1)))⟩, ⟨(some 5), none, (.mv (.tmp 28))⟩]))))) (.seq (.reg [⟨(some 29), none, (.mv (.tmp 5))⟩, ⟨(some 4), none, (.mv (.tmp 29))⟩]) .ret))))
theorem k63 : compF Try.prog 63 = some ⟨c63, [(.tmp 4)], 30⟩ := by kernel_rfl
theorem i63 {a0 a1 : AV} {h : AH} {R : AE → Prop} (hw : ∀ n, h.length = n → (∀ e ∈ h, e.lt n = true) → AV.ltL n [a0, a1] = true → AV.bdL [a0, a1] → aw Try.prog n c63 (retA [(.tmp 4)] fun x h' => ∃ z, h' = h ++ z ∧ x.lt n = true ∧ R x) [a0, a1, .any, .any, .any, .any, .any, .any, .any, .any, .any, .any, .any, .any, .any, .any, .any, .any, .any, .any, .any, .any, .any, .any, .any, .any, .any, .any, .any, .any] (h ++ [])) : ACalls Try.prog 63 [a0, a1] h fun x h' => h' = h ∧ R x := ACalls.into k63 rfl hw
theorem w63 {a0 a1 : AV} {h : AH} {res : AV} (hw : ∀ n, h.length = n → (∀ e ∈ h, e.lt n = true) → AV.ltL n [a0, a1] = true → AV.bdL [a0, a1] → aw Try.prog n c63 (retA [(.tmp 4)] fun x h' => ∃ z, h' = h ++ z ∧ x.lt n = true ∧ ∃ c, x = .ret c ∧ Wk c res) [a0, a1, .any, .any, .any, .any, .any, .any, .any, .any, .any, .any, .any, .any, .any, .any, .any, .any, .any, .any, .any, .any, .any, .any, .any, .any, .any, .any, .any, .any] (h ++ [])) : ACalls Try.prog 63 [a0, a1] h fun x h' => h' = h ∧ x = .ret res := ACalls.weak (ACalls.into k63 rfl hw)
theorem n63 {a0 a1 : AV} {h : AH} {R : AE → AH → Prop} (hw : ∀ n, h.length = n → (∀ e ∈ h, e.lt n = true) → AV.ltL n [a0, a1] = true → AV.bdL [a0, a1] → aw Try.prog n c63 (retA [(.tmp 4)] R) [a0, a1, .any, .any, .any, .any, .any, .any, .any, .any, .any, .any, .any, .any, .any, .any, .any, .any, .any, .any, .any, .any, .any, .any, .any, .any, .any, .any, .any, .any] (h ++ [])) : ACalls Try.prog 63 [a0, a1] h R := ACalls.intoN k63 rfl hw
theorem j63 {a0 a1 : AV} {h : AH} {R : AE → AH → Prop} (hw : ∀ n, h.length = n → (∀ e ∈ h, e.lt n = true) → AV.ltL n [a0, a1] = true → AV.bdL [a0, a1] → aw Try.prog n c63 (retA [(.tmp 4)] fun x h' => ∃ y z, h' = y ++ z ∧ y.length = n ∧ (∀ e ∈ y, e.lt n = true) ∧ x.lt n = true ∧ R x y) [a0, a1, .any, .any, .any, .any, .any, .any, .any, .any, .any, .any, .any, .any, .any, .any, .any, .any, .any, .any, .any, .any, .any, .any, .any, .any, .any, .any, .any, .any] (h ++ [])) : ACalls Try.prog 63 [a0, a1] h R := ACalls.intoG k63 rfl hw
abbrev chgC (c : Chg) : List AV := [iv c.1, iv c.2.1, iv c.2.2.1, sv c.2.2.2]
theorem chg_lt {n : Nat} (l : List Chg) : AV.ltL n (rows chgC l) = true := rows_lt (fun _ _ => rfl) l
theorem chg_leaf (l : List Chg) : (rows chgC l).all leaf = true := rows_leaf (fun _ => rfl) l
theorem chg_len1 : ∀ x, (chgC x).length = 4 := fun _ => rfl
theorem chg_len (l : List Chg) : (rows chgC l).length = l.length * 4 := rows_len chg_len1 l
abbrev chS (l : List Chg) : AV := .sl l.length 4 false (rows chgC l)
abbrev tabA (t : Tab) : AV := .agg [iv t.1.1, iv t.1.2.1, sv t.1.2.2, chS t.2]
/-- how many changes two lists begin with alike -/
def com : List Chg → List Chg → Nat
  | a :: l, b :: m => if a = b then com l m + 1 else 0
  | _, _ => 0
theorem com_le : ∀ l m, com l m ≤ l.length ∧ com l m ≤ m.length
  | a :: l, b :: m => by
    have := com_le l m
    unfold com
    split <;> simp <;> omega
  | [], _ => by simp [com]
  | _ :: _, [] => by simp [com]
theorem com_step {l m : List Chg} {k : Nat} (h1 : k < l.length) (h2 : k < m.length) (h : l[k] = m[k]) : com (l.drop k) (m.drop k) = com (l.drop (k + 1)) (m.drop (k + 1)) + 1 := by
  rw [List.drop_eq_getElem_cons h1, List.drop_eq_getElem_cons h2, com, if_pos h]
theorem com_stop {l m : List Chg} {k : Nat} (h1 : k < l.length) (h2 : k < m.length) (h : l[k] ≠ m[k]) : com (l.drop k) (m.drop k) = 0 := by
  rw [List.drop_eq_getElem_cons h1, List.drop_eq_getElem_cons h2, com, if_neg h]
theorem com_end {l m : List Chg} {k : Nat} (h : l.length ≤ k ∨ m.length ≤ k) : com (l.drop k) (m.drop k) = 0 := by
  rcases h with h | h
  · rw [List.drop_eq_nil_of_le h]; rfl
  · rw [List.drop_eq_nil_of_le h]; cases l.drop k <;> rfl
theorem chg_ext {a b : Chg} (h : a.1 = b.1 ∧ a.2.1 = b.2.1 ∧ a.2.2.1 = b.2.2.1 ∧ a.2.2.2 = b.2.2.2) : a = b := by
  obtain ⟨a1, a2, a3, a4⟩ := a; obtain ⟨b1, b2, b3, b4⟩ := b; simp at h ⊢; exact h

theorem common_a (l m : List Chg) (h : AH) : ACalls Try.prog 63 [chS l, chS m] h fun x h' => h' = h ∧ x = .ret (iv (com l m)) := by
  refine i63 ?_
  intro N hn hlt hlA hbd
  try simp only [AV.bdL, AV.bd, and_true, true_and] at hbd
  refine w_seq ?_
  refine w_reg ?_
  refine s_val rfl (v_mv lki) pt4 ?_
  refine s_nil ?_
  refine n_seq ?_
  refine w_seq ?_
  refine w_reg ?_
  refine s_val rfl (v_mv lki) pt5 ?_
  refine s_nil ?_
  refine n_seq ?_
  refine w_seq ?_
  refine w_block ?_
  refine w_loop (ι := Nat) (fun (k : Nat) => [(5, iv (k : Int)), (6, .any), (7, .any), (8, .any), (9, .any), (10, .any), (11, .any), (12, .any), (13, .any), (14, .any), (15, .any), (16, .any), (17, .any), (18, .any), (19, .any), (20, .any), (21, .any), (22, .any), (23, .any), (24, .any), (25, .any), (26, .any), (27, .any), (28, .any)]) (fun (k : Nat) => []) (fun (k : Nat) => k ≤ l.length ∧ k ≤ m.length ∧ com l m = k + com (l.drop k) (m.drop k)) (fun (k : Nat) => l.length - k) (0) (by refine ⟨by omega, by omega, by simp⟩) (by try simp only [setsT, setsE, List.set_cons_zero, List.set_cons_succ]; exact ALe.same (wk1 rfl (wk1 rfl (wk1 rfl (wk1 rfl (wk1 rfl (wk1 (by first | rfl | exact ivx (by omega) | (simp; done)) (wka (wka (wka (wka (wka (wka (wka (wka (wka (wka (wka (wka (wka (wka (wka (wka (wka (wka (wka (wka (wka (wka (wka (wk1 rfl wk0)))))))))))))))))))))))))))))) rfl) ?_
  rintro k hi1
  try simp only [setsT, setsE, List.set_cons_zero, List.set_cons_succ]
  obtain ⟨hk1, hk2, hkc⟩ := hi1
  refine w_seq ?_
  refine w_seq ?_
  refine w_drwE ?_
  refine d_val rfl (v_mv lk5) pt6 ?_
  refine d_val rfl (v_mv lk0) pt7 ?_
  refine d_val rfl (v_lenL lk7) pt8 ?_
  refine d_val rfl (v_lss lk6 lk8) pt9 ?_
  refine d_val rfl (v_mv lk9) pt10 ?_
  first | refine d_splitP gt10 pt10 pt10 (fun hg10 => ?_) (fun hg10 => ?_) | refine d_splitB gt10 pt10 pt10 (fun hg10 => ?_) (fun hg10 => ?_)
  · skip
    refine d_do gt10 ?_
    refine d_val rfl (v_mv lk5) pt11 ?_
    refine d_do gt10 ?_
    refine d_val rfl (v_mv lk1) pt12 ?_
    refine d_do gt10 ?_
    refine d_val rfl (v_lenL lk12) pt13 ?_
    refine d_do gt10 ?_
    refine d_val rfl (v_lss lk11 lk13) pt14 ?_
    refine d_val rfl (v_pickT lk10 lk14) pt15 ?_
    refine d_val rfl (v_mv lk15) pt16 ?_
    first | refine d_splitP gt16 pt16 pt16 (fun hg16 => ?_) (fun hg16 => ?_) | refine d_splitB gt16 pt16 pt16 (fun hg16 => ?_) (fun hg16 => ?_)
    · skip
      refine d_do gt16 ?_
      refine d_val rfl (v_mv lk0) pt17 ?_
      refine d_do gt16 ?_
      refine d_val rfl (v_mv lk5) pt18 ?_
      refine d_do gt16 ?_
      refine d_val rfl (v_iaR lk17 lk18 (fun _ => rfl) (Nat.le_of_ble_eq_true rfl) (by first | rfl | omega) (by omega) (by first | rfl | omega) rfl) pt19 ?_
      refine d_do gt16 ?_
      refine d_val rfl (v_loadrA lk19 ATabA_tk_4 rfl) pt20 ?_
      refine d_do gt16 ?_
      refine d_val rfl (v_mv lk1) pt21 ?_
      refine d_do gt16 ?_
      refine d_val rfl (v_mv lk5) pt22 ?_
      refine d_do gt16 ?_
      refine d_val rfl (v_iaR lk21 lk22 (fun _ => rfl) (Nat.le_of_ble_eq_true rfl) (by first | rfl | omega) (by omega) (by first | rfl | omega) rfl) pt23 ?_
      refine d_do gt16 ?_
      refine d_val rfl (v_loadrA lk23 ATabA_tk_4 rfl) pt24 ?_
      refine d_do gt16 ?_
      refine d_val rfl (v_eqsT lk20 lk24 ATabA_eq_iiis) pt25 ?_
      refine d_val rfl (v_pickT lk16 lk25) pt26 ?_
      refine d_nil ?_
      refine e_nil ?_
      refine s_nil ?_
      refine n_seq ?_
      first | refine w_cond lk26 (fun hc1 => ?_) (fun hc1 => ?_) | refine w_condB lk26 (fun hc1 => ?_) (fun hc1 => ?_)
      · skip
        refine w_skip ?_
        refine n_seq ?_
        refine w_block ?_
        refine w_reg ?_
        refine s_val rfl (v_mv lk5) pt27 ?_
        refine s_val rfl (v_add lk27 lki (by omega) (by omega)) pt28 ?_
        refine s_val rfl (v_mv lk28) pt5 ?_
        refine s_nil ?_
        refine n_blk ?_
        refine n_thn ?_
        refine LoopTo.mk (k + 1) (by omega) (by (try dsimp only); refine ⟨by omega, by omega, ?_⟩; rw [hkc, com_step (by omega) (by omega) (chg_ext hc1)]; omega) (by (try dsimp only); (try simp only [setsT, setsE, List.set_cons_zero, List.set_cons_succ]); exact ALe.same (wk1 rfl (wk1 rfl (wk1 rfl (wk1 rfl (wk1 rfl (wk1 (by first | rfl | exact ivx (by omega) | (simp; done)) (wka (wka (wka (wka (wka (wka (wka (wka (wka (wka (wka (wka (wka (wka (wka (wka (wka (wka (wka (wka (wka (wka (wka (wk1 rfl wk0)))))))))))))))))))))))))))))) rfl)
      · skip
        refine w_exit ?_
        refine x_thn ?_
        refine x_thn ?_
        refine x_blk ?_
        refine n_seq ?_
        refine w_seq ?_
        refine w_reg ?_
        refine s_val rfl (v_mv lk5) pt29 ?_
        refine s_val rfl (v_mv lk29) pt4 ?_
        refine s_nil ?_
        refine n_seq ?_
        refine w_rets ?_
        refine w_ret (rs1 (rr_t gt4)) ?_
        refine rt (by first | rfl | (simp only [AV.lt, AV.ltL, Ent.lt, List.all_cons, List.all_nil, Bool.and_true, Bool.and_self, decide_true, chg_lt]; done) | (simp [AV.lt, AV.ltL, Ent.lt, chg_lt, *]; done) | (simp [AV.lt, AV.ltL, Ent.lt, chg_lt, *]; omega)) ?_
        congr 2; first | (rw [hkc, com_end (by omega)]; simp; done) | (rw [hkc, com_stop (by omega) (by omega) (fun e => hc1 (by rw [e]; simp))]; simp; done)
    · skip
      refine d_no gt16 pt17 ?_
      refine d_no gt16 pt18 ?_
      refine d_no gt16 pt19 ?_
      refine d_no gt16 pt20 ?_
      refine d_no gt16 pt21 ?_
      refine d_no gt16 pt22 ?_
      refine d_no gt16 pt23 ?_
      refine d_no gt16 pt24 ?_
      refine d_no gt16 pt25 ?_
      refine d_val rfl (v_pickF lk16 lkb) pt26 ?_
      refine d_nil ?_
      refine e_nil ?_
      refine s_nil ?_
      refine n_seq ?_
      refine w_condF lk26 ?_
      refine w_exit ?_
      refine x_thn ?_
      refine x_thn ?_
      refine x_blk ?_
      refine n_seq ?_
      refine w_seq ?_
      refine w_reg ?_
      refine s_val rfl (v_mv lk5) pt29 ?_
      refine s_val rfl (v_mv lk29) pt4 ?_
      refine s_nil ?_
      refine n_seq ?_
      refine w_rets ?_
      refine w_ret (rs1 (rr_t gt4)) ?_
      refine rt (by first | rfl | (simp only [AV.lt, AV.ltL, Ent.lt, List.all_cons, List.all_nil, Bool.and_true, Bool.and_self, decide_true, chg_lt]; done) | (simp [AV.lt, AV.ltL, Ent.lt, chg_lt, *]; done) | (simp [AV.lt, AV.ltL, Ent.lt, chg_lt, *]; omega)) ?_
      congr 2; first | (rw [hkc, com_end (by omega)]; simp; done) | (rw [hkc, com_stop (by omega) (by omega) (fun e => hc1 (by rw [e]; simp))]; simp; done)
  · skip
    refine d_no gt10 pt11 ?_
    refine d_no gt10 pt12 ?_
    refine d_no gt10 pt13 ?_
    refine d_no gt10 pt14 ?_
    refine d_val rfl (v_pickF lk10 lkb) pt15 ?_
    refine d_val rfl (v_mv lk15) pt16 ?_
    refine d_no gt16 pt17 ?_
    refine d_no gt16 pt18 ?_
    refine d_no gt16 pt19 ?_
    refine d_no gt16 pt20 ?_
    refine d_no gt16 pt21 ?_
    refine d_no gt16 pt22 ?_
    refine d_no gt16 pt23 ?_
    refine d_no gt16 pt24 ?_
    refine d_no gt16 pt25 ?_
    refine d_val rfl (v_pickF lk16 lkb) pt26 ?_
    refine d_nil ?_
    refine e_nil ?_
    refine s_nil ?_
    refine n_seq ?_
    refine w_condF lk26 ?_
    refine w_exit ?_
    refine x_thn ?_
    refine x_thn ?_
    refine x_blk ?_
    refine n_seq ?_
    refine w_seq ?_
    refine w_reg ?_
    refine s_val rfl (v_mv lk5) pt29 ?_
    refine s_val rfl (v_mv lk29) pt4 ?_
    refine s_nil ?_
    refine n_seq ?_
    refine w_rets ?_
    refine w_ret (rs1 (rr_t gt4)) ?_
    refine rt (by first | rfl | (simp only [AV.lt, AV.ltL, Ent.lt, List.all_cons, List.all_nil, Bool.and_true, Bool.and_self, decide_true, chg_lt]; done) | (simp [AV.lt, AV.ltL, Ent.lt, chg_lt, *]; done) | (simp [AV.lt, AV.ltL, Ent.lt, chg_lt, *]; omega)) ?_
    congr 2; first | (rw [hkc, com_end (by omega)]; simp; done) | (rw [hkc, com_stop (by omega) (by omega) (fun e => hc1 (by rw [e]; simp))]; simp; done)
theorem common_a' {l m : List Chg} {k : Nat} {f1 f2 : Bool} {h : AH} (hk : com l m = k) : ACalls Try.prog 63 [.sl l.length 4 f1 (rows chgC l), .sl m.length 4 f2 (rows chgC m)] h fun x h' => h' = h ∧ x = .ret (iv (k : Int)) := by
  subst hk
  exact ACalls.wk (wkw Wk.full (wkw Wk.full wk0)) (common_a l m h)
end Go.Proofs.Ytmbebimingkfeaa
