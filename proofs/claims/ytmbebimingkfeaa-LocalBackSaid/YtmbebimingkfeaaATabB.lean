/-
  Contract of table.Check on plain data. Conditions: names are no longer than a text may be.
-/
import Derived.Test.YtmbebimingkfeaaATabA
import Derived.Test.YtmbebimingkfeaaASgn
set_option linter.unusedVariables false
set_option linter.unusedSimpArgs false
set_option maxRecDepth 100000
namespace Go.Proofs.Ytmbebimingkfeaa
open Go.Ab Civ
section
theorem ATabB_tk0_3 {a0 a1 a2 : AV} {l : List AV} : ((a0 :: a1 :: a2 :: l).drop 0).take 3 = [a0, a1, a2] := rfl
theorem ATabB_Check_20 {τ : Operand → AV} {y0 y1 : Operand} {x0_0 x1_0 x1_1 x1_2 : AV} (h0 : cellsV (τ y0) = some [x0_0]) (l0 : [x0_0].all leaf = true) (h1 : cellsV (τ y1) = some [x1_0, x1_1, x1_2]) (l1 : [x1_0, x1_1, x1_2].all leaf = true) : fillAV τ [(0, 1, y0), (1, 3, y1)] [(.v (.int .i64 0)), (.v (.int .i64 0)), (.v (.int .i64 0)), (.v (.string ⟨#[]⟩))] = some [x0_0, x1_0, x1_1, x1_2] := by
  simp only [fillAV, h0, l0, h1, l1]
  rfl
theorem ATabB_lap0 { e : Ent} : ([] : AH) ++ [e] = [e] := rfl
theorem ATabB_lj1_1 {e0 d0 : Ent} : ([e0] : AH) ++ [d0] = [e0, d0] := rfl
theorem ATabB_sc0_4 {a0 a1 a2 a3 c0 c1 c2 c3 : AV} {l : List AV} : setCells (a0 :: a1 :: a2 :: a3 :: l) 0 [c0, c1, c2, c3] = c0 :: c1 :: c2 :: c3 :: l := rfl
theorem ATabB_tk_4 {a0 a1 a2 a3 : AV} {l : List AV} : (a0 :: a1 :: a2 :: a3 :: l).take 4 = [a0, a1, a2, a3] := rfl
theorem ATabB_tk1_3 {a0 a1 a2 a3 : AV} {l : List AV} : ((a0 :: a1 :: a2 :: a3 :: l).drop 1).take 3 = [a1, a2, a3] := rfl
theorem ATabB_eq_iis {a0 b0 : Int} {a1 b1 : Int} {a2 b2 : ByteArray} : eqCells [.int, .int, .str] [iv a0, iv a1, sv a2] [iv b0, iv b1, sv b2] = some (decide (a0 = b0 ∧ a1 = b1 ∧ a2 = b2)) := by
  simp only [eqCells, eqLeaf, if_true, bytes_beq, Option.some.injEq]
  simp only [Bool.decide_and, Bool.and_true]
  try (congr 1 <;> simp)
  try rfl
theorem ATabB_tk0_4 {a0 a1 a2 a3 : AV} {l : List AV} : ((a0 :: a1 :: a2 :: a3 :: l).drop 0).take 4 = [a0, a1, a2, a3] := rfl
end
/-- table.Check -/
def c35 : AC := (.seq (.reg [⟨(some 1), none, (.box 26 4 (.tmp 0))⟩, ⟨(some 2), none, (.mv (.const (.int .i64 0)))⟩]) (.seq (.seq (.reg [⟨(some 8), none, (.fa 3 (.tmp 1))⟩, ⟨(some 9), none, (.load false 1 (.tmp 8))⟩, ⟨(some 10), none, (.len false (.tmp 9))⟩, ⟨(some 11), none, (.bin .gtr (.tmp 10) (.const (.int .i64 1000)))⟩]) (.cond (.tmp 11) (.seq (.reg [⟨(some 2), none, (.mv (.const (.int .i64 2)))⟩]) .ret) .skip)) (.seq (.seq (.reg [⟨(some 12), none, (.fa 0 (.tmp 1))⟩, ⟨(some 13), none, (.load true 3 (.tmp 12))⟩, ⟨(some 14), none, (.call (.func 59) [(.tmp 13)])⟩, ⟨(some 3), none, (.mv (.tmp 14))⟩]) (.seq (.reg [⟨(some 15), none, (.mv (.tmp 3))⟩, ⟨(some 16), none, (.bin .neq (.tmp 15) (.const (.int .i64 0)))⟩]) (.cond (.tmp 16) (.seq (.reg [⟨(some 17), none, (.mv (.tmp 3))⟩, ⟨(some 2), none, (.mv (.tmp 17))⟩]) .ret) .skip))) (.seq (.drw [⟨(some 18), none, (.call (.func 60) [])⟩, ⟨(some 19), none, (.bin .sub (.tmp 18) (.const (.int .i64 1)))⟩, ⟨(some 20), none, (.fa 0 (.tmp 1))⟩, ⟨(some 21), none, (.load true 3 (.tmp 20))⟩, ⟨(some 22), none, (.build [(.v (.int .i64 0)), (.v (.int .i64 0)), (.v (.int .i64 0)), (.v (.string ⟨#[]⟩))] [(0, (1, (.tmp 19))), (1, (3, (.tmp 21)))])⟩, ⟨(some 4), none, (.new 46 4 [(.v (.int .i64 0)), (.v (.int .i64 0)), (.v (.int .i64 0)), (.v (.string ⟨#[]⟩))])⟩] [false] [⟨none, none, (.store 4 (.tmp 4) (.tmp 22))⟩]) (.seq (.seq (.reg [⟨(some 23), none, (.fa 3 (.tmp 1))⟩, ⟨(some 24), none, (.load false 1 (.tmp 23))⟩, ⟨(some 25), none, (.len false (.tmp 24))⟩, ⟨(some 26), none, (.mv (.const (.int .i64 0)))⟩]) (.block 0 (.loop (.seq (.reg [⟨(some 27), none, (.bin .lss (.tmp 26) (.tmp 25))⟩]) (.seq (.cond (.tmp 27) .skip (.exit 0)) (.seq (.block 1 (.seq (.reg [⟨(some 28), none, (.ia 4 (.tmp 24) (.tmp 26))⟩, ⟨(some 29), none, (.load true 4 (.tmp 28))⟩, ⟨(some 6), none, (.new 46 4 [(.v (.int .i64 0)), (.v (.int .i64 0)), (.v (.int .i64 0)), (.v (.string ⟨#[]⟩))])⟩, ⟨none, none, (.store 4 (.tmp 6) (.tmp 29))⟩]) (.seq (.block 2 (.seq (.reg [⟨(some 31), none, (.fa 0 (.tmp 6))⟩, ⟨(some 32), none, (.load false 1 (.tmp 31))⟩, ⟨(some 33), none, (.call (.func 61) [(.tmp 32)])⟩, ⟨(some 34), none, (.un .not (.tmp 33))⟩, ⟨(some 30), none, (.mv (.tmp 34))⟩]) (.cond (.tmp 30) (.seq (.reg [⟨(some 2), none, (.mv (.const (.int .i64 3)))⟩]) .ret) (.seq (.reg [⟨(some 36), none, (.fa 0 (.tmp 6))⟩, ⟨(some 37), none, (.load false 1 (.tmp 36))⟩, ⟨(some 38), none, (.fa 0 (.tmp 4))⟩, ⟨(some 39), none, (.load false 1 (.tmp 38))⟩, ⟨(some 40), none, (.bin .leq (.tmp 37) (.tmp 39))⟩, ⟨(some 35), none, (.mv (.tmp 40))⟩]) (.cond (.tmp 35) (.seq (.reg [⟨(some 2), none, (.mv (.const (.int .i64 4)))⟩]) .ret) .skip))))) (.seq (.seq (.reg [⟨(some 41), none, (.fa 1 (.tmp 6))⟩, ⟨(some 42), none, (.load true 3 (.tmp 41))⟩, ⟨(some 43), none, (.call (.func 59) [(.tmp 42)])⟩, ⟨(some 7), none, (.mv (.tmp 43))⟩]) (.seq (.reg [⟨(some 44), none, (.mv (.tmp 7))⟩, ⟨(some 45), none, (.bin .neq (.tmp 44) (.const (.int .i64 0)))⟩]) (.cond (.tmp 45) (.seq (.reg [⟨(some 46), none, (.mv (.tmp 7))⟩, ⟨(some 2), none, (.mv (.tmp 46))⟩]) .ret) .skip))) (.seq (.seq (.reg [⟨(some 47), none, (.fa 1 (.tmp 6))⟩, ⟨(some 48), none, (.load true 3 (.tmp 47))⟩, ⟨(some 49), none, (.fa 1 (.tmp 4))⟩, ⟨(some 50), none, (.load true 3 (.tmp 49))⟩, ⟨(some 51), none, (.eqs false [.int, .int, .str] (.tmp 48) (.tmp 50))⟩]) (.cond (.tmp 51) (.seq (.reg [⟨(some 2), none, (.mv (.const (.int .i64 4)))⟩]) .ret) .skip)) (.reg [⟨(some 52), none, (.load true 4 (.tmp 6))⟩, ⟨none, none, (.store 4 (.tmp 4) (.tmp 52))⟩])))))) (.reg [⟨(some 53), none, (.bin .add (.tmp 26) (.const (.int .i64 1)))⟩, ⟨(some 26), none, (.mv (.tmp 53))⟩]))))))) (.seq (.reg [⟨(some 2), none, (.mv (.const (.int .i64 0)))⟩]) .ret))))))
theorem k35 : compF Try.prog 35 = some ⟨c35, [(.tmp 2)], 54⟩ := by kernel_rfl
theorem i35 {a0 : AV} {h : AH} {R : AE → Prop} (hw : ∀ n, h.length = n → (∀ e ∈ h, e.lt n = true) → AV.ltL n [a0] = true → AV.bdL [a0] → aw Try.prog n c35 (retA [(.tmp 2)] fun x h' => ∃ z, h' = h ++ z ∧ x.lt n = true ∧ R x) [a0, .any, .any, .any, .any, .any, .any, .any, .any, .any, .any, .any, .any, .any, .any, .any, .any, .any, .any, .any, .any, .any, .any, .any, .any, .any, .any, .any, .any, .any, .any, .any, .any, .any, .any, .any, .any, .any, .any, .any, .any, .any, .any, .any, .any, .any, .any, .any, .any, .any, .any, .any, .any, .any] (h ++ [])) : ACalls Try.prog 35 [a0] h fun x h' => h' = h ∧ R x := ACalls.into k35 rfl hw
theorem w35 {a0 : AV} {h : AH} {res : AV} (hw : ∀ n, h.length = n → (∀ e ∈ h, e.lt n = true) → AV.ltL n [a0] = true → AV.bdL [a0] → aw Try.prog n c35 (retA [(.tmp 2)] fun x h' => ∃ z, h' = h ++ z ∧ x.lt n = true ∧ ∃ c, x = .ret c ∧ Wk c res) [a0, .any, .any, .any, .any, .any, .any, .any, .any, .any, .any, .any, .any, .any, .any, .any, .any, .any, .any, .any, .any, .any, .any, .any, .any, .any, .any, .any, .any, .any, .any, .any, .any, .any, .any, .any, .any, .any, .any, .any, .any, .any, .any, .any, .any, .any, .any, .any, .any, .any, .any, .any, .any, .any] (h ++ [])) : ACalls Try.prog 35 [a0] h fun x h' => h' = h ∧ x = .ret res := ACalls.weak (ACalls.into k35 rfl hw)
theorem n35 {a0 : AV} {h : AH} {R : AE → AH → Prop} (hw : ∀ n, h.length = n → (∀ e ∈ h, e.lt n = true) → AV.ltL n [a0] = true → AV.bdL [a0] → aw Try.prog n c35 (retA [(.tmp 2)] R) [a0, .any, .any, .any, .any, .any, .any, .any, .any, .any, .any, .any, .any, .any, .any, .any, .any, .any, .any, .any, .any, .any, .any, .any, .any, .any, .any, .any, .any, .any, .any, .any, .any, .any, .any, .any, .any, .any, .any, .any, .any, .any, .any, .any, .any, .any, .any, .any, .any, .any, .any, .any, .any, .any] (h ++ [])) : ACalls Try.prog 35 [a0] h R := ACalls.intoN k35 rfl hw
theorem j35 {a0 : AV} {h : AH} {R : AE → AH → Prop} (hw : ∀ n, h.length = n → (∀ e ∈ h, e.lt n = true) → AV.ltL n [a0] = true → AV.bdL [a0] → aw Try.prog n c35 (retA [(.tmp 2)] fun x h' => ∃ y z, h' = y ++ z ∧ y.length = n ∧ (∀ e ∈ y, e.lt n = true) ∧ x.lt n = true ∧ R x y) [a0, .any, .any, .any, .any, .any, .any, .any, .any, .any, .any, .any, .any, .any, .any, .any, .any, .any, .any, .any, .any, .any, .any, .any, .any, .any, .any, .any, .any, .any, .any, .any, .any, .any, .any, .any, .any, .any, .any, .any, .any, .any, .any, .any, .any, .any, .any, .any, .any, .any, .any, .any, .any, .any] (h ++ [])) : ACalls Try.prog 35 [a0] h R := ACalls.intoG k35 rfl hw
theorem check_a {a b : Int} {c : ByteArray} {l : List Chg} {full : Bool} {h : AH} (hs : c.size ≤ maxLen) (hl : ∀ x ∈ l, x.2.2.2.size ≤ maxLen) :
    ACalls Try.prog 35 [.agg [iv a, iv b, sv c, .sl l.length 4 full (rows chgC l)]] h fun x h' => h' = h ∧ x = .ret (iv (checkT ((a, b, c), l))) := by
  refine i35 ?_
  intro N hn hlt hlA hbd
  try simp only [AV.bdL, AV.bd, and_true, true_and] at hbd
  refine w_seq ?_
  refine w_reg ?_
  refine s_eff rfl rfl (e_box (cvl lk0 rfl) rfl (hl0 hn) ha0) pt1 ?_
  refine s_val rfl (v_mv lki) pt2 ?_
  refine s_nil ?_
  refine n_seq ?_
  refine w_seq ?_
  refine w_seq ?_
  refine w_reg ?_
  refine s_val rfl (v_fap0 lk1) pt8 ?_
  refine s_val rfl (v_loadp lk8 (hga hn rfl) gt3) pt9 ?_
  refine s_val rfl (v_lenL lk9) pt10 ?_
  refine s_val rfl (v_gtr lk10 lki) pt11 ?_
  refine s_nil ?_
  refine n_seq ?_
  first | refine w_cond lk11 (fun hc1 => ?_) (fun hc1 => ?_) | refine w_condB lk11 (fun hc1 => ?_) (fun hc1 => ?_)
  · skip
    refine w_seq ?_
    refine w_reg ?_
    refine s_val rfl (v_mv lki) pt2 ?_
    refine s_nil ?_
    refine n_seq ?_
    refine w_rets ?_
    refine r_thn ?_
    refine w_ret (rs1 (rr_t gt2)) ?_
    refine rt (by first | rfl | (simp only [AV.lt, AV.ltL, Ent.lt, List.all_cons, List.all_nil, Bool.and_true, Bool.and_self, decide_true, chg_lt]; done) | (simp [AV.lt, AV.ltL, Ent.lt, chg_lt, *]; done) | (simp [AV.lt, AV.ltL, Ent.lt, chg_lt, *]; omega)) ?_
    refine ivx ?_; rw [checkT, if_pos (by simp only; omega)]
  · skip
    refine w_skip ?_
    refine n_seq ?_
    refine w_seq ?_
    refine w_seq ?_
    refine w_reg ?_
    refine s_val rfl (v_fap0 lk1) pt12 ?_
    refine s_val rfl (v_loadpA lk12 (hga hn rfl) ATabB_tk0_3 rfl) pt13 ?_
    refine s_callp (mp1 lk13 mp0) (local_a) pt14 ?_
    refine s_val rfl (v_mv lk14) pt3 ?_
    refine s_nil ?_
    refine n_seq ?_
    refine w_seq ?_
    refine w_reg ?_
    refine s_val rfl (v_mv lk3) pt15 ?_
    refine s_val rfl (v_neq lk15 lki) pt16 ?_
    refine s_nil ?_
    refine n_seq ?_
    first | refine w_cond lk16 (fun hc2 => ?_) (fun hc2 => ?_) | refine w_condB lk16 (fun hc2 => ?_) (fun hc2 => ?_)
    · skip
      refine w_seq ?_
      refine w_reg ?_
      refine s_val rfl (v_mv lk3) pt17 ?_
      refine s_val rfl (v_mv lk17) pt2 ?_
      refine s_nil ?_
      refine n_seq ?_
      refine w_rets ?_
      refine r_thn ?_
      refine w_ret (rs1 (rr_t gt2)) ?_
      refine rt (by first | rfl | (simp only [AV.lt, AV.ltL, Ent.lt, List.all_cons, List.all_nil, Bool.and_true, Bool.and_self, decide_true, chg_lt]; done) | (simp [AV.lt, AV.ltL, Ent.lt, chg_lt, *]; done) | (simp [AV.lt, AV.ltL, Ent.lt, chg_lt, *]; omega)) ?_
      refine ivx ?_; rw [checkT, if_neg (by simp only; omega), if_pos hc2]
    · skip
      refine w_skip ?_
      refine n_seq ?_
      have hE : checkT ((a, b, c), l) = chk (-62135596801) (a, b, c) l := by rw [checkT, if_neg (by simp only; omega), if_neg (by simpa using hc2)]
      refine w_seq ?_
      refine w_drwE ?_
      refine d_callp mp0 (fun hE hX => least_a) pt18 ?_
      refine d_val rfl (v_sub lk18 lki (by omega) (by omega)) pt19 ?_
      refine d_val rfl (v_fap0 lk1) pt20 ?_
      refine d_val rfl (v_loadpA lk20 (hga hn rfl) ATabB_tk0_3 rfl) pt21 ?_
      refine d_val rfl (v_build (ATabB_Check_20 (cvl lk19 rfl) rfl (cvl lk21 rfl) rfl)) pt22 ?_
      refine d_eff rfl rfl (hlk hn rfl) (l_new) pt4 ATabB_lap0 ?_
      refine d_nil ?_
      refine e_ent ATabB_lj1_1 ?_
      refine s_eff rfl rfl (e_store lk4 (cvl lk22 rfl) (hga hn rfl) rfl (Nat.le_of_ble_eq_true rfl) rfl ATabB_sc0_4 (hs1 hn)) ptn ?_
      refine s_nil ?_
      refine n_seq ?_
      refine w_seq ?_
      refine w_seq ?_
      refine w_reg ?_
      refine s_val rfl (v_fap0 lk1) pt23 ?_
      refine s_val rfl (v_loadp lk23 (hga hn rfl) gt3) pt24 ?_
      refine s_val rfl (v_lenL lk24) pt25 ?_
      refine s_val rfl (v_mv lki) pt26 ?_
      refine s_nil ?_
      refine n_seq ?_
      refine w_block ?_
      refine w_loop (ι := Nat × Int × Int × Int × ByteArray) (fun (x_ : Nat × Int × Int × Int × ByteArray) => match x_ with | ⟨k, wa, ws, wv, wn⟩ => [(26, iv (k : Int)), (2, .any), (6, .any), (7, .any), (27, .any), (28, .any), (29, .any), (30, .any), (31, .any), (32, .any), (33, .any), (34, .any), (35, .any), (36, .any), (37, .any), (38, .any), (39, .any), (40, .any), (41, .any), (42, .any), (43, .any), (44, .any), (45, .any), (46, .any), (47, .any), (48, .any), (49, .any), (50, .any), (51, .any), (52, .any), (53, .any)]) (fun (x_ : Nat × Int × Int × Int × ByteArray) => match x_ with | ⟨k, wa, ws, wv, wn⟩ => [(1, .mk 0 46 4 [iv wa, iv ws, iv wv, sv wn])]) (fun (x_ : Nat × Int × Int × Int × ByteArray) => match x_ with | ⟨k, wa, ws, wv, wn⟩ => k ≤ l.length ∧ checkT ((a, b, c), l) = chk wa (ws, wv, wn) (l.drop k)) (fun (x_ : Nat × Int × Int × Int × ByteArray) => match x_ with | ⟨k, wa, ws, wv, wn⟩ => l.length - k) (⟨0, -62135596801, a, b, c⟩) (by exact ⟨by omega, by rw [hE]; simp⟩) (by try simp only [setsT, setsE, List.set_cons_zero, List.set_cons_succ]; exact ALe.same (wk1 rfl (wk1 rfl (wka (wk1 rfl (wk1 rfl (wk1 rfl (wka (wka (wk1 rfl (wk1 rfl (wk1 rfl (wk1 rfl (wk1 rfl (wk1 rfl (wk1 rfl (wk1 rfl (wk1 rfl (wk1 rfl (wk1 rfl (wk1 rfl (wk1 rfl (wk1 rfl (wk1 rfl (wk1 rfl (wk1 rfl (wk1 rfl (wk1 (by first | rfl | exact ivx (by omega) | (simp; done)) (wka (wka (wka (wka (wka (wka (wka (wka (wka (wka (wka (wka (wka (wka (wka (wka (wka (wka (wka (wka (wka (wka (wka (wka (wka (wka (wka wk0)))))))))))))))))))))))))))))))))))))))))))))))))))))) rfl) ?_
      rintro ⟨k, wa, ws, wv, wn⟩ hi1
      try simp only [setsT, setsE, List.set_cons_zero, List.set_cons_succ]
      obtain ⟨hk1, hk2⟩ := hi1
      refine w_seq ?_
      refine w_reg ?_
      refine s_val rfl (v_lss lk26 lk25) pt27 ?_
      refine s_nil ?_
      refine n_seq ?_
      refine w_seq ?_
      first | refine w_cond lk27 (fun hc3 => ?_) (fun hc3 => ?_) | refine w_condB lk27 (fun hc3 => ?_) (fun hc3 => ?_)
      · skip
        have hk : k < l.length := by omega
        have hsz : l[k].2.2.2.size ≤ maxLen := hl _ (List.getElem_mem hk)
        rw [List.drop_eq_getElem_cons hk] at hk2
        refine w_skip ?_
        refine n_seq ?_
        refine w_seq ?_
        refine w_block ?_
        refine w_seq ?_
        refine w_reg ?_
        refine s_val rfl (v_iaR lk24 lk26 (fun _ => rfl) (Nat.le_of_ble_eq_true rfl) (by first | rfl | omega) (by omega) (by first | rfl | omega) rfl) pt28 ?_
        refine s_val rfl (v_loadrA lk28 ATabB_tk_4 rfl) pt29 ?_
        refine s_eff rfl rfl (e_new (hl2 hn) ha2) pt6 ?_
        refine s_eff rfl rfl (e_store lk6 (cvl lk29 rfl) (hga hn rfl) rfl (Nat.le_of_ble_eq_true rfl) rfl ATabB_sc0_4 (hs2 hn)) ptn ?_
        refine s_nil ?_
        refine n_seq ?_
        refine w_seq ?_
        refine w_block ?_
        refine w_seq ?_
        refine w_reg ?_
        refine s_val rfl (v_fap0 lk6) pt31 ?_
        refine s_val rfl (v_loadp lk31 (hga hn rfl) gt0) pt32 ?_
        refine s_callp (mp1 lk32 mp0) (time_a) pt33 ?_
        refine s_val rfl (v_notB lk33) pt34 ?_
        refine s_val rfl (v_mv lk34) pt30 ?_
        refine s_nil ?_
        refine n_seq ?_
        refine w_condB lk30 (fun hc4 => ?_) (fun hc4 => ?_)
        · skip
          refine w_seq ?_
          refine w_reg ?_
          refine s_val rfl (v_mv lki) pt2 ?_
          refine s_nil ?_
          refine n_seq ?_
          refine w_rets ?_
          refine r_blk ?_
          refine r_thn ?_
          refine r_blk ?_
          refine r_thn ?_
          refine r_thn ?_
          refine r_blk ?_
          refine r_thn ?_
          refine w_ret (rs1 (rr_t gt2)) ?_
          refine rt (by first | rfl | (simp only [AV.lt, AV.ltL, Ent.lt, List.all_cons, List.all_nil, Bool.and_true, Bool.and_self, decide_true, chg_lt]; done) | (simp [AV.lt, AV.ltL, Ent.lt, chg_lt, *]; done) | (simp [AV.lt, AV.ltL, Ent.lt, chg_lt, *]; omega)) ?_
          refine ivx ?_; rw [hk2, chk_cons_3 (by simpa using hc4)]
        · skip
          refine w_seq ?_
          refine w_reg ?_
          refine s_val rfl (v_fap0 lk6) pt36 ?_
          refine s_val rfl (v_loadp lk36 (hga hn rfl) gt0) pt37 ?_
          refine s_val rfl (v_fap0 lk4) pt38 ?_
          refine s_val rfl (v_loadp lk38 (hga hn rfl) gt0) pt39 ?_
          refine s_val rfl (v_leq lk37 lk39) pt40 ?_
          refine s_val rfl (v_mv lk40) pt35 ?_
          refine s_nil ?_
          refine n_seq ?_
          first | refine w_cond lk35 (fun hc5 => ?_) (fun hc5 => ?_) | refine w_condB lk35 (fun hc5 => ?_) (fun hc5 => ?_)
          · skip
            refine w_seq ?_
            refine w_reg ?_
            refine s_val rfl (v_mv lki) pt2 ?_
            refine s_nil ?_
            refine n_seq ?_
            refine w_rets ?_
            refine r_blk ?_
            refine r_thn ?_
            refine r_blk ?_
            refine r_thn ?_
            refine r_thn ?_
            refine r_blk ?_
            refine r_thn ?_
            refine w_ret (rs1 (rr_t gt2)) ?_
            refine rt (by first | rfl | (simp only [AV.lt, AV.ltL, Ent.lt, List.all_cons, List.all_nil, Bool.and_true, Bool.and_self, decide_true, chg_lt]; done) | (simp [AV.lt, AV.ltL, Ent.lt, chg_lt, *]; done) | (simp [AV.lt, AV.ltL, Ent.lt, chg_lt, *]; omega)) ?_
            refine ivx ?_; rw [hk2, chk_cons_4 (by simpa using hc4) (by omega)]
          · skip
            refine w_skip ?_
            refine n_blk ?_
            refine n_seq ?_
            refine w_seq ?_
            refine w_seq ?_
            refine w_reg ?_
            refine s_val rfl (v_fap0 lk6) pt41 ?_
            refine s_val rfl (v_loadpA lk41 (hga hn rfl) ATabB_tk1_3 rfl) pt42 ?_
            refine s_callp (mp1 lk42 mp0) (local_a) pt43 ?_
            refine s_val rfl (v_mv lk43) pt7 ?_
            refine s_nil ?_
            refine n_seq ?_
            refine w_seq ?_
            refine w_reg ?_
            refine s_val rfl (v_mv lk7) pt44 ?_
            refine s_val rfl (v_neq lk44 lki) pt45 ?_
            refine s_nil ?_
            refine n_seq ?_
            first | refine w_cond lk45 (fun hc6 => ?_) (fun hc6 => ?_) | refine w_condB lk45 (fun hc6 => ?_) (fun hc6 => ?_)
            · skip
              refine w_seq ?_
              refine w_reg ?_
              refine s_val rfl (v_mv lk7) pt46 ?_
              refine s_val rfl (v_mv lk46) pt2 ?_
              refine s_nil ?_
              refine n_seq ?_
              refine w_rets ?_
              refine r_thn ?_
              refine r_blk ?_
              refine r_thn ?_
              refine r_thn ?_
              refine r_blk ?_
              refine r_thn ?_
              refine w_ret (rs1 (rr_t gt2)) ?_
              refine rt (by first | rfl | (simp only [AV.lt, AV.ltL, Ent.lt, List.all_cons, List.all_nil, Bool.and_true, Bool.and_self, decide_true, chg_lt]; done) | (simp [AV.lt, AV.ltL, Ent.lt, chg_lt, *]; done) | (simp [AV.lt, AV.ltL, Ent.lt, chg_lt, *]; omega)) ?_
              refine ivx ?_; rw [hk2, chk_cons_l (by simpa using hc4) (by omega) hc6]
            · skip
              refine w_skip ?_
              refine n_seq ?_
              refine w_seq ?_
              refine w_seq ?_
              refine w_reg ?_
              refine s_val rfl (v_fap0 lk6) pt47 ?_
              refine s_val rfl (v_loadpA lk47 (hga hn rfl) ATabB_tk1_3 rfl) pt48 ?_
              refine s_val rfl (v_fap0 lk4) pt49 ?_
              refine s_val rfl (v_loadpA lk49 (hga hn rfl) ATabB_tk1_3 rfl) pt50 ?_
              refine s_val rfl (v_eqsT lk48 lk50 ATabB_eq_iis) pt51 ?_
              refine s_nil ?_
              refine n_seq ?_
              first | refine w_cond lk51 (fun hc7 => ?_) (fun hc7 => ?_) | refine w_condB lk51 (fun hc7 => ?_) (fun hc7 => ?_)
              · skip
                refine w_seq ?_
                refine w_reg ?_
                refine s_val rfl (v_mv lki) pt2 ?_
                refine s_nil ?_
                refine n_seq ?_
                refine w_rets ?_
                refine r_thn ?_
                refine r_blk ?_
                refine r_thn ?_
                refine r_thn ?_
                refine r_blk ?_
                refine r_thn ?_
                refine w_ret (rs1 (rr_t gt2)) ?_
                refine rt (by first | rfl | (simp only [AV.lt, AV.ltL, Ent.lt, List.all_cons, List.all_nil, Bool.and_true, Bool.and_self, decide_true, chg_lt]; done) | (simp [AV.lt, AV.ltL, Ent.lt, chg_lt, *]; done) | (simp [AV.lt, AV.ltL, Ent.lt, chg_lt, *]; omega)) ?_
                refine ivx ?_; rw [hk2, chk_cons_s (by simpa using hc4) (by omega) (by simpa using hc6) (locEq_iff.2 (by obtain ⟨x1, x2, x3⟩ := hc7; exact Prod.ext x1 (Prod.ext x2 x3)))]
              · skip
                refine w_skip ?_
                refine n_seq ?_
                refine w_reg ?_
                refine s_val rfl (v_loadpA lk6 (hga hn rfl) ATabB_tk0_4 rfl) pt52 ?_
                refine s_eff rfl rfl (e_store lk4 (cvl lk52 rfl) (hga hn rfl) rfl (Nat.le_of_ble_eq_true rfl) rfl ATabB_sc0_4 (hs1 hn)) ptn ?_
                refine s_nil ?_
                refine n_blk ?_
                refine n_seq ?_
                refine w_reg ?_
                refine s_val rfl (v_add lk26 lki (by omega) (by omega)) pt53 ?_
                refine s_val rfl (v_mv lk53) pt26 ?_
                refine s_nil ?_
                refine n_thn ?_
                refine LoopTo.mk (⟨k + 1, l[k].1, l[k].2.1, l[k].2.2.1, l[k].2.2.2⟩) (by omega) (by (try dsimp only); exact ⟨by omega, by rw [hk2, chk_cons_ok (by simpa using hc4) (by omega) (by simpa using hc6) (locEq_no (fun e => hc7 (by rw [e]; simp)))]⟩) (by (try dsimp only); (try simp only [setsT, setsE, List.set_cons_zero, List.set_cons_succ]); exact ALe.back (wk1 rfl (wk1 rfl (wka (wk1 rfl (wk1 rfl (wk1 rfl (wka (wka (wk1 rfl (wk1 rfl (wk1 rfl (wk1 rfl (wk1 rfl (wk1 rfl (wk1 rfl (wk1 rfl (wk1 rfl (wk1 rfl (wk1 rfl (wk1 rfl (wk1 rfl (wk1 rfl (wk1 rfl (wk1 rfl (wk1 rfl (wk1 rfl (wk1 (by first | rfl | exact ivx (by omega) | (simp; done)) (wka (wka (wka (wka (wka (wka (wka (wka (wka (wka (wka (wka (wka (wka (wka (wka (wka (wka (wka (wka (wka (wka (wka (wka (wka (wka (wka wk0)))))))))))))))))))))))))))))))))))))))))))))))))))))) (by rfl) (k := N + 2) (by simp only [List.length_cons, List.length_nil, hn]) (by omega) (by first | rfl | (simp only [AV.lt, AV.ltL, Ent.lt, List.all_cons, List.all_nil, Bool.and_true, Bool.and_self, decide_true, chg_lt]; done) | (simp [AV.lt, AV.ltL, Ent.lt, chg_lt, *]; done) | (simp [AV.lt, AV.ltL, Ent.lt, chg_lt, *]; omega)) (ltw (by omega) hlt) (by first | rfl | (simp only [AV.lt, AV.ltL, Ent.lt, List.all_cons, List.all_nil, Bool.and_true, Bool.and_self, decide_true, chg_lt]; done) | (simp [AV.lt, AV.ltL, Ent.lt, chg_lt, *]; done) | (simp [AV.lt, AV.ltL, Ent.lt, chg_lt, *]; omega)))
      · skip
        refine w_exit ?_
        refine x_thn ?_
        refine x_thn ?_
        refine x_blk ?_
        refine n_seq ?_
        refine w_seq ?_
        refine w_reg ?_
        refine s_val rfl (v_mv lki) pt2 ?_
        refine s_nil ?_
        refine n_seq ?_
        refine w_rets ?_
        refine w_ret (rs1 (rr_t gt2)) ?_
        refine rt (by first | rfl | (simp only [AV.lt, AV.ltL, Ent.lt, List.all_cons, List.all_nil, Bool.and_true, Bool.and_self, decide_true, chg_lt]; done) | (simp [AV.lt, AV.ltL, Ent.lt, chg_lt, *]; done) | (simp [AV.lt, AV.ltL, Ent.lt, chg_lt, *]; omega)) ?_
        refine ivx ?_; rw [hk2, List.drop_eq_nil_of_le (by omega), chk_nil]
end Go.Proofs.Ytmbebimingkfeaa
