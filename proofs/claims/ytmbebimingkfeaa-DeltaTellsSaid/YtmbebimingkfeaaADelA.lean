/-
  Contracts on plain data: slices.Clone and slices.Reverse of changes, delta.back. Conditions: lists are no longer than memory allows.
-/
import Derived.Test.YtmbebimingkfeaaATabB
set_option linter.unusedVariables false
set_option linter.unusedSimpArgs false
set_option maxRecDepth 100000
namespace Go.Proofs.Ytmbebimingkfeaa
open Go.Ab Civ
section
theorem ADelA_Change_5 {τ : Operand → AV} : fillAV τ [] [] = some [] := rfl
end
/-- slices.Clone[[]api.Change,api.Change] -/
def c65 : AC := (.seq (.reg [⟨(some 2), none, (.mv (.const (.slice none 0 0)))⟩]) (.seq (.seq (.reg [⟨(some 3), none, (.mv (.tmp 0))⟩, ⟨(some 4), none, (.eqn false (.tmp 3))⟩]) (.cond (.tmp 4) (.seq (.reg [⟨(some 2), none, (.mv (.const (.slice none 0 0)))⟩]) .ret) .skip)) (.seq (.reg [⟨(some 5), none, (.lit 46 4 0 [] [])⟩, ⟨(some 6), none, (.mv (.tmp 0))⟩, ⟨(some 7), none, (.app 46 4 40 (.tmp 5) (.tmp 6))⟩, ⟨(some 2), none, (.mv (.tmp 7))⟩]) .ret)))
theorem k65 : compF Try.prog 65 = some ⟨c65, [(.tmp 2)], 8⟩ := by kernel_rfl
theorem i65 {a0 : AV} {h : AH} {R : AE → Prop} (hw : ∀ n, h.length = n → (∀ e ∈ h, e.lt n = true) → AV.ltL n [a0] = true → AV.bdL [a0] → aw Try.prog n c65 (retA [(.tmp 2)] fun x h' => ∃ z, h' = h ++ z ∧ x.lt n = true ∧ R x) [a0, .any, .any, .any, .any, .any, .any, .any] (h ++ [])) : ACalls Try.prog 65 [a0] h fun x h' => h' = h ∧ R x := ACalls.into k65 rfl hw
theorem w65 {a0 : AV} {h : AH} {res : AV} (hw : ∀ n, h.length = n → (∀ e ∈ h, e.lt n = true) → AV.ltL n [a0] = true → AV.bdL [a0] → aw Try.prog n c65 (retA [(.tmp 2)] fun x h' => ∃ z, h' = h ++ z ∧ x.lt n = true ∧ ∃ c, x = .ret c ∧ Wk c res) [a0, .any, .any, .any, .any, .any, .any, .any] (h ++ [])) : ACalls Try.prog 65 [a0] h fun x h' => h' = h ∧ x = .ret res := ACalls.weak (ACalls.into k65 rfl hw)
theorem n65 {a0 : AV} {h : AH} {R : AE → AH → Prop} (hw : ∀ n, h.length = n → (∀ e ∈ h, e.lt n = true) → AV.ltL n [a0] = true → AV.bdL [a0] → aw Try.prog n c65 (retA [(.tmp 2)] R) [a0, .any, .any, .any, .any, .any, .any, .any] (h ++ [])) : ACalls Try.prog 65 [a0] h R := ACalls.intoN k65 rfl hw
theorem j65 {a0 : AV} {h : AH} {R : AE → AH → Prop} (hw : ∀ n, h.length = n → (∀ e ∈ h, e.lt n = true) → AV.ltL n [a0] = true → AV.bdL [a0] → aw Try.prog n c65 (retA [(.tmp 2)] fun x h' => ∃ y z, h' = y ++ z ∧ y.length = n ∧ (∀ e ∈ y, e.lt n = true) ∧ x.lt n = true ∧ R x y) [a0, .any, .any, .any, .any, .any, .any, .any] (h ++ [])) : ACalls Try.prog 65 [a0] h R := ACalls.intoG k65 rfl hw
/-- slices.Reverse[[]api.Change,api.Change] -/
def c81 : AC := (.seq (.reg [⟨(some 4), none, (.mv (.tmp 0))⟩, ⟨(some 5), none, (.len false (.tmp 4))⟩, ⟨(some 6), none, (.bin .sub (.tmp 5) (.const (.int .i64 1)))⟩, ⟨(some 2), none, (.mv (.const (.int .i64 0)))⟩, ⟨(some 3), none, (.mv (.tmp 6))⟩]) (.block 0 (.loop (.seq (.seq (.reg [⟨(some 7), none, (.mv (.tmp 2))⟩, ⟨(some 8), none, (.mv (.tmp 3))⟩, ⟨(some 9), none, (.bin .lss (.tmp 7) (.tmp 8))⟩]) (.cond (.tmp 9) .skip (.exit 0))) (.seq (.block 1 (.drw [⟨(some 14), none, (.mv (.tmp 0))⟩, ⟨(some 15), none, (.mv (.tmp 2))⟩, ⟨(some 16), none, (.mv (.tmp 0))⟩, ⟨(some 17), none, (.mv (.tmp 3))⟩, ⟨(some 18), none, (.mv (.tmp 0))⟩, ⟨(some 19), none, (.mv (.tmp 3))⟩, ⟨(some 20), none, (.ia 4 (.tmp 18) (.tmp 19))⟩, ⟨(some 21), none, (.load true 4 (.tmp 20))⟩, ⟨(some 22), none, (.mv (.tmp 0))⟩, ⟨(some 23), none, (.mv (.tmp 2))⟩, ⟨(some 24), none, (.ia 4 (.tmp 22) (.tmp 23))⟩, ⟨(some 25), none, (.load true 4 (.tmp 24))⟩, ⟨(some 26), none, (.ia 4 (.tmp 14) (.tmp 15))⟩] [⟨none, none, (.store 4 (.tmp 26) (.tmp 21))⟩, ⟨(some 27), none, (.ia 4 (.tmp 16) (.tmp 17))⟩, ⟨none, none, (.store 4 (.tmp 27) (.tmp 25))⟩])) (.reg [⟨(some 10), none, (.mv (.tmp 2))⟩, ⟨(some 11), none, (.bin .add (.tmp 10) (.const (.int .i64 1)))⟩, ⟨(some 12), none, (.mv (.tmp 3))⟩, ⟨(some 13), none, (.bin .sub (.tmp 12) (.const (.int .i64 1)))⟩, ⟨(some 2), none, (.mv (.tmp 11))⟩, ⟨(some 3), none, (.mv (.tmp 13))⟩]))))))
theorem k81 : compF Try.prog 81 = some ⟨c81, [], 28⟩ := by kernel_rfl
theorem i81 {a0 : AV} {h : AH} {R : AE → Prop} (hw : ∀ n, h.length = n → (∀ e ∈ h, e.lt n = true) → AV.ltL n [a0] = true → AV.bdL [a0] → aw Try.prog n c81 (retA [] fun x h' => ∃ z, h' = h ++ z ∧ x.lt n = true ∧ R x) [a0, .any, .any, .any, .any, .any, .any, .any, .any, .any, .any, .any, .any, .any, .any, .any, .any, .any, .any, .any, .any, .any, .any, .any, .any, .any, .any, .any] (h ++ [])) : ACalls Try.prog 81 [a0] h fun x h' => h' = h ∧ R x := ACalls.into k81 rfl hw
theorem w81 {a0 : AV} {h : AH} {res : AV} (hw : ∀ n, h.length = n → (∀ e ∈ h, e.lt n = true) → AV.ltL n [a0] = true → AV.bdL [a0] → aw Try.prog n c81 (retA [] fun x h' => ∃ z, h' = h ++ z ∧ x.lt n = true ∧ ∃ c, x = .ret c ∧ Wk c res) [a0, .any, .any, .any, .any, .any, .any, .any, .any, .any, .any, .any, .any, .any, .any, .any, .any, .any, .any, .any, .any, .any, .any, .any, .any, .any, .any, .any] (h ++ [])) : ACalls Try.prog 81 [a0] h fun x h' => h' = h ∧ x = .ret res := ACalls.weak (ACalls.into k81 rfl hw)
theorem n81 {a0 : AV} {h : AH} {R : AE → AH → Prop} (hw : ∀ n, h.length = n → (∀ e ∈ h, e.lt n = true) → AV.ltL n [a0] = true → AV.bdL [a0] → aw Try.prog n c81 (retA [] R) [a0, .any, .any, .any, .any, .any, .any, .any, .any, .any, .any, .any, .any, .any, .any, .any, .any, .any, .any, .any, .any, .any, .any, .any, .any, .any, .any, .any] (h ++ [])) : ACalls Try.prog 81 [a0] h R := ACalls.intoN k81 rfl hw
theorem j81 {a0 : AV} {h : AH} {R : AE → AH → Prop} (hw : ∀ n, h.length = n → (∀ e ∈ h, e.lt n = true) → AV.ltL n [a0] = true → AV.bdL [a0] → aw Try.prog n c81 (retA [] fun x h' => ∃ y z, h' = y ++ z ∧ y.length = n ∧ (∀ e ∈ y, e.lt n = true) ∧ x.lt n = true ∧ R x y) [a0, .any, .any, .any, .any, .any, .any, .any, .any, .any, .any, .any, .any, .any, .any, .any, .any, .any, .any, .any, .any, .any, .any, .any, .any, .any, .any, .any] (h ++ [])) : ACalls Try.prog 81 [a0] h R := ACalls.intoG k81 rfl hw
/-- delta.back -/
def c64 : AC := (.seq (.reg [⟨(some 2), none, (.mv (.const (.slice none 0 0)))⟩]) (.seq (.reg [⟨(some 4), none, (.mv (.tmp 0))⟩, ⟨(some 5), none, (.call (.func 65) [(.tmp 4)])⟩, ⟨(some 3), none, (.mv (.tmp 5))⟩]) (.seq (.reg [⟨(some 6), none, (.mv (.tmp 3))⟩, ⟨(some 7), none, (.call (.func 81) [(.tmp 6)])⟩]) (.seq (.reg [⟨(some 8), none, (.mv (.tmp 3))⟩, ⟨(some 2), none, (.mv (.tmp 8))⟩]) .ret))))
theorem k64 : compF Try.prog 64 = some ⟨c64, [(.tmp 2)], 9⟩ := by kernel_rfl
theorem i64 {a0 : AV} {h : AH} {R : AE → Prop} (hw : ∀ n, h.length = n → (∀ e ∈ h, e.lt n = true) → AV.ltL n [a0] = true → AV.bdL [a0] → aw Try.prog n c64 (retA [(.tmp 2)] fun x h' => ∃ z, h' = h ++ z ∧ x.lt n = true ∧ R x) [a0, .any, .any, .any, .any, .any, .any, .any, .any] (h ++ [])) : ACalls Try.prog 64 [a0] h fun x h' => h' = h ∧ R x := ACalls.into k64 rfl hw
theorem w64 {a0 : AV} {h : AH} {res : AV} (hw : ∀ n, h.length = n → (∀ e ∈ h, e.lt n = true) → AV.ltL n [a0] = true → AV.bdL [a0] → aw Try.prog n c64 (retA [(.tmp 2)] fun x h' => ∃ z, h' = h ++ z ∧ x.lt n = true ∧ ∃ c, x = .ret c ∧ Wk c res) [a0, .any, .any, .any, .any, .any, .any, .any, .any] (h ++ [])) : ACalls Try.prog 64 [a0] h fun x h' => h' = h ∧ x = .ret res := ACalls.weak (ACalls.into k64 rfl hw)
theorem n64 {a0 : AV} {h : AH} {R : AE → AH → Prop} (hw : ∀ n, h.length = n → (∀ e ∈ h, e.lt n = true) → AV.ltL n [a0] = true → AV.bdL [a0] → aw Try.prog n c64 (retA [(.tmp 2)] R) [a0, .any, .any, .any, .any, .any, .any, .any, .any] (h ++ [])) : ACalls Try.prog 64 [a0] h R := ACalls.intoN k64 rfl hw
theorem j64 {a0 : AV} {h : AH} {R : AE → AH → Prop} (hw : ∀ n, h.length = n → (∀ e ∈ h, e.lt n = true) → AV.ltL n [a0] = true → AV.bdL [a0] → aw Try.prog n c64 (retA [(.tmp 2)] fun x h' => ∃ y z, h' = y ++ z ∧ y.length = n ∧ (∀ e ∈ y, e.lt n = true) ∧ x.lt n = true ∧ R x y) [a0, .any, .any, .any, .any, .any, .any, .any, .any] (h ++ [])) : ACalls Try.prog 64 [a0] h R := ACalls.intoG k64 rfl hw
theorem clone_a {l : List Chg} {full : Bool} {h : AH} (hl : l.length ≤ 3000000000000) : ACalls Try.prog 65 [.sl l.length 4 full (rows chgC l)] h fun r h' => ∃ v, r = .ret (.own h.length v l.length) ∧ h' = h ++ [.mk v 46 4 (rows chgC l)] := by
  refine n65 ?_
  intro N hn hlt hlA hbd
  try simp only [AV.bdL, AV.bd, and_true, true_and] at hbd
  refine w_seq ?_
  refine w_reg ?_
  refine s_val rfl (v_mv lkn) pt2 ?_
  refine s_nil ?_
  refine n_seq ?_
  refine w_seq ?_
  refine w_seq ?_
  refine w_reg ?_
  refine s_val rfl (v_mv lk0) pt3 ?_
  refine s_eqn lk3 (fun _ => pt4) (fun bn3 hbn3 => ?_)
  refine s_nil ?_
  refine n_seq ?_
  first | refine w_cond lk4 (fun hc1 => ?_) (fun hc1 => ?_) | refine w_condB lk4 (fun hc1 => ?_) (fun hc1 => ?_)
  · skip
    refine w_seq ?_
    refine w_reg ?_
    refine s_val rfl (v_mv lkn) pt2 ?_
    refine s_nil ?_
    refine n_seqw (ALe.own0 (d := 2) (st' := 4) (ty := 46) rfl) ?_
    refine w_rets ?_
    refine r_thn ?_
    refine w_ret (rs1 (rr_t gt2)) ?_
    have h0 : l = [] := List.eq_nil_of_length_eq_zero ((Nat.eq_zero_or_pos _).resolve_right (fun e => by have := hbn3 e; rw [hc1] at this; cases this))
    subst h0
    exact ⟨0, by simp, by simp [rows]⟩
  · skip
    refine w_skip ?_
    refine n_seq ?_
    refine w_seq ?_
    refine w_reg ?_
    refine s_eff rfl rfl (e_lit ADelA_Change_5 (hl0 hn) ha0) pt5 ?_
    refine s_val rfl (v_mv lk0) pt6 ?_
    refine s_eff rfl rfl (e_app (sc_sl lk6 (chg_len _)) lk5 (hga hn rfl) rfl (by omega) (chg_leaf _) (hs0 hn)) pt7 ?_
    refine s_val rfl (v_mv lk7) pt2 ?_
    refine s_nil ?_
    refine n_seq ?_
    refine w_rets ?_
    refine w_ret (rs1 (rr_t gt2)) ?_
    exact ⟨0 + 1, by simp [hn], by simp⟩

/-- k steps of turning a list around -/
def rvAt (l m : List Chg) (k : Nat) : Prop := m.length = l.length ∧ ∀ t, t < l.length → m[t]? = if t < k ∨ l.length - k ≤ t then l[l.length - 1 - t]? else l[t]?
theorem rvAt_start (l : List Chg) : rvAt l l 0 := ⟨rfl, fun t ht => by rw [if_neg (by omega)]⟩
theorem rvAt_step {l m : List Chg} {k : Nat} (h : rvAt l m k) (hk : k < l.length - 1 - k) (h1 : k < m.length) (h2 : l.length - 1 - k < m.length) : rvAt l ((m.set k m[l.length - 1 - k]).set (l.length - 1 - k) m[k]) (k + 1) := by
  obtain ⟨hl, hm⟩ := h
  refine ⟨by simp [hl], fun t ht => ?_⟩
  have a := hm k (by omega)
  have b := hm (l.length - 1 - k) (by omega)
  have c := hm t ht
  rw [List.getElem?_eq_getElem h1, if_neg (by omega)] at a
  rw [List.getElem?_eq_getElem h2, if_neg (by omega)] at b
  rw [List.getElem?_set, List.length_set]
  by_cases e1 : l.length - 1 - k = t
  · rw [if_pos e1, if_pos h2, a, if_pos (by omega)]
    congr 1; omega
  · rw [if_neg e1, List.getElem?_set]
    by_cases e2 : k = t
    · rw [if_pos e2, if_pos h1, b, if_pos (by omega)]
      congr 1; omega
    · rw [if_neg e2, c]
      by_cases e3 : t < k ∨ l.length - k ≤ t
      · rw [if_pos e3, if_pos (by omega)]
      · rw [if_neg e3, if_neg (by omega)]
theorem rvAt_end {l m : List Chg} {k : Nat} (h : rvAt l m k) (hk : ¬ k < l.length - 1 - k) : m = l.reverse := by
  obtain ⟨hl, hm⟩ := h
  apply List.ext_getElem?
  intro t
  by_cases ht : t < l.length
  · rw [hm t ht, List.getElem?_reverse ht]
    by_cases e : t < k ∨ l.length - k ≤ t
    · rw [if_pos e]
    · rw [if_neg e]; congr 1; omega
  · rw [List.getElem?_eq_none (by omega), List.getElem?_eq_none (by simp; omega)]
theorem reverse_a {l : List Chg} {id v : Nat} {h : AH} (he : h[id]? = some (.mk v 46 4 (rows chgC l))) : ACalls Try.prog 81 [.own id v l.length] h fun r h' => r = .ret (.tup []) ∧ h' = h.set id (.mk v 46 4 (rows chgC l.reverse)) := by
  have hid : id < h.length := (List.getElem?_eq_some_iff.1 he).1
  refine j81 ?_
  intro N hn hlt hlA hbd
  try simp only [AV.bdL, AV.bd, and_true, true_and] at hbd
  refine aw_heap (h1 := h.set id (.mk v 46 4 (rows chgC l)) ++ []) (by rw [hx_self he]) ?_
  refine w_seq ?_
  refine w_reg ?_
  refine s_val rfl (v_mv lk0) pt4 ?_
  refine s_val rfl (v_lenO lk4) pt5 ?_
  refine s_val rfl (v_sub lk5 lki (by (try simp only [List.length_set]); omega) (by (try simp only [List.length_set]); omega)) pt6 ?_
  refine s_val rfl (v_mv lki) pt2 ?_
  refine s_val rfl (v_mv lk6) pt3 ?_
  refine s_nil ?_
  refine n_seq ?_
  refine w_block ?_
  refine w_loopH (ι := List Chg × Nat) (fun (x_ : List Chg × Nat) => match x_ with | ⟨m, k⟩ => [(2, iv (k : Int)), (3, iv ((l.length : Int) - 1 - k)), (7, .any), (8, .any), (9, .any), (10, .any), (11, .any), (12, .any), (13, .any), (14, .any), (15, .any), (16, .any), (17, .any), (18, .any), (19, .any), (20, .any), (21, .any), (22, .any), (23, .any), (24, .any), (25, .any), (26, .any), (27, .any)]) (fun (x_ : List Chg × Nat) => match x_ with | ⟨m, k⟩ => h.set id (.mk v 46 4 (rows chgC m)) ++ []) (fun (x_ : List Chg × Nat) => match x_ with | ⟨m, k⟩ => rvAt l m k ∧ k ≤ l.length) (fun (x_ : List Chg × Nat) => match x_ with | ⟨m, k⟩ => l.length - k) (⟨l, 0⟩) (by exact ⟨rvAt_start l, by omega⟩) (by try simp only [setsT, setsE, List.set_cons_zero, List.set_cons_succ]; exact ALe.same (wk1 rfl (wk1 rfl (wk1 (by first | rfl | exact ivx (by omega) | (simp; done)) (wk1 (by first | rfl | exact ivx (by omega) | (simp; done)) (wk1 rfl (wk1 rfl (wk1 rfl (wka (wka (wka (wka (wka (wka (wka (wka (wka (wka (wka (wka (wka (wka (wka (wka (wka (wka (wka (wka (wka wk0)))))))))))))))))))))))))))) rfl) ?_
  rintro ⟨m, k⟩ hi1
  try simp only [setsT, setsE, List.set_cons_zero, List.set_cons_succ]
  obtain ⟨hk1, hk2⟩ := hi1
  have hml : m.length = l.length := hk1.1
  refine w_seq ?_
  refine w_seq ?_
  refine w_reg ?_
  refine s_val rfl (v_mv lk2) pt7 ?_
  refine s_val rfl (v_mv lk3) pt8 ?_
  refine s_val rfl (v_lss lk7 lk8) pt9 ?_
  refine s_nil ?_
  refine n_seq ?_
  first | refine w_cond lk9 (fun hc1 => ?_) (fun hc1 => ?_) | refine w_condB lk9 (fun hc1 => ?_) (fun hc1 => ?_)
  · skip
    have hkk : k < l.length - 1 - k := by omega
    refine w_skip ?_
    refine n_seq ?_
    refine w_seq ?_
    refine w_block ?_
    refine w_drwE ?_
    refine d_val rfl (v_mv lk0) pt14 ?_
    refine d_val rfl (v_mv lk2) pt15 ?_
    refine d_val rfl (v_mv lk0) pt16 ?_
    refine d_val rfl (v_mv lk3) pt17 ?_
    refine d_val rfl (v_mv lk0) pt18 ?_
    refine d_val rfl (v_mv lk3) pt19 ?_
    refine d_val rfl (v_iaOR (k := l.length - 1 - k) lk18 lk19 (hx_at hid) chg_len1 (Nat.le_of_ble_eq_true rfl) (by first | rfl | (try simp only [List.length_set]); omega) (by (try simp only [List.length_set]); omega) (by first | rfl | (simp; done) | (try simp only [List.length_set]); omega)) pt20 ?_
    refine d_val rfl (v_ldOR lk20 (hx_at hid) chg_len1 (by (try simp only [List.length_set]); omega) rfl) pt21 ?_
    refine d_val rfl (v_mv lk0) pt22 ?_
    refine d_val rfl (v_mv lk2) pt23 ?_
    refine d_val rfl (v_iaOR lk22 lk23 (hx_at hid) chg_len1 (Nat.le_of_ble_eq_true rfl) (by first | rfl | (try simp only [List.length_set]); omega) (by (try simp only [List.length_set]); omega) (by first | rfl | (simp; done) | (try simp only [List.length_set]); omega)) pt24 ?_
    refine d_val rfl (v_ldOR lk24 (hx_at hid) chg_len1 (by (try simp only [List.length_set]); omega) rfl) pt25 ?_
    refine d_val rfl (v_iaOR lk14 lk15 (hx_at hid) chg_len1 (Nat.le_of_ble_eq_true rfl) (by first | rfl | (try simp only [List.length_set]); omega) (by (try simp only [List.length_set]); omega) (by first | rfl | (simp; done) | (try simp only [List.length_set]); omega)) pt26 ?_
    refine d_nil ?_
    refine e_nil ?_
    refine s_eff rfl rfl (e_stOR lk26 (cvl lk21 rfl) (hx_at hid) chg_len1 rfl (by (try simp only [List.length_set]); omega) (hx_set hid)) ptn ?_
    refine s_val rfl (v_iaOR (k := l.length - 1 - k) lk16 lk17 (hx_at hid) chg_len1 (Nat.le_of_ble_eq_true rfl) (by first | rfl | (try simp only [List.length_set]); omega) (by (try simp only [List.length_set]); omega) (by first | rfl | (simp; done) | (try simp only [List.length_set]); omega)) pt27 ?_
    refine s_eff rfl rfl (e_stOR lk27 (cvl lk25 rfl) (hx_at hid) chg_len1 rfl (by (try simp only [List.length_set]); omega) (hx_set hid)) ptn ?_
    refine s_nil ?_
    refine n_blk ?_
    refine n_seq ?_
    refine w_reg ?_
    refine s_val rfl (v_mv lk2) pt10 ?_
    refine s_val rfl (v_add lk10 lki (by (try simp only [List.length_set]); omega) (by (try simp only [List.length_set]); omega)) pt11 ?_
    refine s_val rfl (v_mv lk3) pt12 ?_
    refine s_val rfl (v_sub lk12 lki (by (try simp only [List.length_set]); omega) (by (try simp only [List.length_set]); omega)) pt13 ?_
    refine s_val rfl (v_mv lk11) pt2 ?_
    refine s_val rfl (v_mv lk13) pt3 ?_
    refine s_nil ?_
    refine n_thn ?_
    refine LoopTo.mk (⟨_, k + 1⟩) (by omega) (by exact ⟨rvAt_step hk1 hkk (by omega) (by omega), by omega⟩) (by (try dsimp only); (try simp only [setsT, setsE, List.set_cons_zero, List.set_cons_succ]); exact ALe.same (wk1 rfl (wk1 rfl (wk1 (by first | rfl | exact ivx (by omega) | (simp; done)) (wk1 (by first | rfl | exact ivx (by omega) | (simp; done)) (wk1 rfl (wk1 rfl (wk1 rfl (wka (wka (wka (wka (wka (wka (wka (wka (wka (wka (wka (wka (wka (wka (wka (wka (wka (wka (wka (wka (wka wk0)))))))))))))))))))))))))))) rfl)
  · skip
    refine w_exit ?_
    refine x_thn ?_
    refine x_thn ?_
    refine x_blk ?_
    refine w_end (rs0) ?_
    exact ⟨h.set id (.mk v 46 4 (rows chgC m)), [], rfl, hx_len hn, hx_lt hlt (by simp [Ent.lt, chg_lt]), rfl, rfl, by rw [rvAt_end hk1 (by omega)]⟩
theorem back_a {l : List Chg} {full : Bool} {h : AH} (hl : l.length ≤ 3000000000000) : ACalls Try.prog 64 [.sl l.length 4 full (rows chgC l)] h fun x h' => h' = h ∧ x = .ret (chS l.reverse) := by
  refine i64 ?_
  intro N hn hlt hlA hbd
  try simp only [AV.bdL, AV.bd, and_true, true_and] at hbd
  refine w_seq ?_
  refine w_reg ?_
  refine s_val rfl (v_mv lkn) pt2 ?_
  refine s_nil ?_
  refine n_seq ?_
  refine w_seq ?_
  refine w_reg ?_
  refine s_val rfl (v_mv lk0) pt4 ?_
  refine s_calla (mp1 lk4 mp0) (clone_a (by first | assumption | omega)) (hl0 hn) (fun _ => ha0) (fun _ => pt5) (fun va3 => ?_)
  refine s_val rfl (v_mv lk5) pt3 ?_
  refine s_nil ?_
  refine n_seq ?_
  refine w_seq ?_
  refine w_reg ?_
  refine s_val rfl (v_mv lk3) pt6 ?_
  refine s_calls (mp1 lk6 mp0) (reverse_a (hga hn rfl)) (hs0 hn) pt7 ?_
  refine s_nil ?_
  refine n_seq ?_
  refine w_seq ?_
  refine w_reg ?_
  refine s_val rfl (v_mv lk3) pt8 ?_
  refine s_val rfl (v_mv lk8) pt2 ?_
  refine s_nil ?_
  skip
  refine n_seqw (ALe.iceR (hga hn rfl) gt2 (List.take_of_length_le (by rw [chg_len]; simp)) (by rw [chg_len]; simp) pt2 (hs0 hn)) ?_
  refine w_rets ?_
  refine w_ret (rs1 (rr_t gt2)) ?_
  refine rt (by first | rfl | (simp only [AV.lt, AV.ltL, Ent.lt, List.all_cons, List.all_nil, Bool.and_true, Bool.and_self, decide_true, chg_lt]; done) | (simp [AV.lt, AV.ltL, Ent.lt, chg_lt, *]; done) | (simp [AV.lt, AV.ltL, Ent.lt, chg_lt, *]; omega)) ?_
  simp [chS]
end Go.Proofs.Ytmbebimingkfeaa
