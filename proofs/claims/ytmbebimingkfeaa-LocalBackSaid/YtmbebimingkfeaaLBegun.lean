/-
  Contract on plain data: what the laws of local begin with. No condition.
-/
import Derived.Test.YtmbebimingkfeaaLRefB
set_option linter.unusedVariables false
set_option linter.unusedSimpArgs false
set_option maxRecDepth 100000
namespace Go.Proofs.Ytmbebimingkfeaa
open Go.Ab Civ
section
theorem LBegun_sc0_3 {a0 a1 a2 c0 c1 c2 : AV} {l : List AV} : setCells (a0 :: a1 :: a2 :: l) 0 [c0, c1, c2] = c0 :: c1 :: c2 :: l := rfl
theorem LBegun_tk0_3 {a0 a1 a2 : AV} {l : List AV} : ((a0 :: a1 :: a2 :: l).drop 0).take 3 = [a0, a1, a2] := rfl
theorem LBegun_localBegun_30 {τ : Operand → AV} {y0 y1 y2 : Operand} {x0_0 x1_0 x2_0 : AV} (h0 : cellsV (τ y0) = some [x0_0]) (l0 : [x0_0].all leaf = true) (h1 : cellsV (τ y1) = some [x1_0]) (l1 : [x1_0].all leaf = true) (h2 : cellsV (τ y2) = some [x2_0]) (l2 : [x2_0].all leaf = true) : fillAV τ [(0, 1, y0), (1, 1, y1), (2, 1, y2)] [(.v (.int .i64 0)), (.v (.int .i64 0)), (.v (.int .i64 0))] = some [x0_0, x1_0, x2_0] := by
  simp only [fillAV, h0, l0, h1, l1, h2, l2]
  rfl
theorem LBegun_localBegun_53 {τ : Operand → AV} {y0 y1 y2 : Operand} {x0_0 x1_0 x2_0 : AV} (h0 : cellsV (τ y0) = some [x0_0]) (l0 : [x0_0].all leaf = true) (h1 : cellsV (τ y1) = some [x1_0]) (l1 : [x1_0].all leaf = true) (h2 : cellsV (τ y2) = some [x2_0]) (l2 : [x2_0].all leaf = true) : fillAV τ [(0, 1, y0), (1, 1, y1), (2, 1, y2)] [(.v (.int .i64 0)), (.v (.int .i64 0)), (.v (.int .i64 0))] = some [x0_0, x1_0, x2_0] := by
  simp only [fillAV, h0, l0, h1, l1, h2, l2]
  rfl
theorem LBegun_eq_iii {a0 b0 : Int} {a1 b1 : Int} {a2 b2 : Int} : eqCells [.int, .int, .int] [iv a0, iv a1, iv a2] [iv b0, iv b1, iv b2] = some (decide (a0 = b0 ∧ a1 = b1 ∧ a2 = b2)) := by
  simp only [eqCells, eqLeaf, if_true, bytes_beq, Option.some.injEq]
  simp only [Bool.decide_and, Bool.and_true]
  try (congr 1 <;> simp)
  try rfl
theorem LBegun_localBegun_62 {τ : Operand → AV} {y0 : Operand} {x0_0 : AV} (h0 : cellsV (τ y0) = some [x0_0]) (l0 : [x0_0].all leaf = true) : fillAV τ [(0, 1, y0)] [(.v (.int .i64 0))] = some [x0_0] := by
  simp only [fillAV, h0, l0]
  rfl
theorem LBegun_localBegun_72 {τ : Operand → AV} {y0 y1 : Operand} {x0_0 x1_0 : AV} (h0 : cellsV (τ y0) = some [x0_0]) (l0 : [x0_0].all leaf = true) (h1 : cellsV (τ y1) = some [x1_0]) (l1 : [x1_0].all leaf = true) : fillAV τ [(0, 1, y0), (1, 1, y1)] [(.v (.int .i64 0)), (.v (.int .i64 0))] = some [x0_0, x1_0] := by
  simp only [fillAV, h0, l0, h1, l1]
  rfl
end
/-- datelinelaw.localBegun -/
def c32 : AC := (.seq (.reg [⟨(some 0), none, (.mv (.const (.bool false)))⟩]) (.seq (.reg [⟨(some 11), none, (.call (.func 34) [])⟩, ⟨(some 12), none, (.call (.func 25) [(.tmp 11), (.const (.int .i64 100))])⟩, ⟨(some 10), none, (.mv (.tmp 12))⟩, ⟨(some 13), none, (.ext (.tmp 10) 0)⟩, ⟨(some 14), none, (.ext (.tmp 10) 1)⟩, ⟨(some 15), none, (.ext (.tmp 10) 2)⟩, ⟨(some 1), none, (.new 52 3 [(.v (.int .i64 0)), (.v (.int .i64 0)), (.v (.int .i64 0))])⟩, ⟨none, none, (.store 3 (.tmp 1) (.tmp 13))⟩, ⟨(some 2), none, (.mv (.tmp 14))⟩, ⟨(some 3), none, (.mv (.tmp 15))⟩]) (.seq (.drw [⟨(some 17), none, (.call (.func 34) [])⟩, ⟨(some 18), none, (.load true 3 (.tmp 1))⟩, ⟨(some 19), none, (.mv (.tmp 2))⟩, ⟨(some 20), none, (.call (.func 26) [(.tmp 17), (.tmp 18), (.tmp 19)])⟩, ⟨(some 16), none, (.mv (.tmp 20))⟩, ⟨(some 21), none, (.ext (.tmp 16) 0)⟩, ⟨(some 22), none, (.ext (.tmp 16) 1)⟩, ⟨(some 4), none, (.mv (.tmp 21))⟩, ⟨(some 5), none, (.mv (.tmp 22))⟩] [] []) (.seq (.drw [⟨(some 24), none, (.call (.func 34) [])⟩, ⟨(some 25), none, (.load true 3 (.tmp 1))⟩, ⟨(some 26), none, (.call (.func 26) [(.tmp 24), (.tmp 25), (.const (.int .i64 3700))])⟩, ⟨(some 23), none, (.mv (.tmp 26))⟩, ⟨(some 27), none, (.ext (.tmp 23) 0)⟩, ⟨(some 28), none, (.ext (.tmp 23) 1)⟩, ⟨(some 6), none, (.mv (.tmp 27))⟩, ⟨(some 7), none, (.mv (.tmp 28))⟩] [] []) (.seq (.reg [⟨(some 30), none, (.call (.func 34) [])⟩, ⟨(some 31), none, (.build [(.v (.int .i64 0)), (.v (.int .i64 0)), (.v (.int .i64 0))] [(0, (1, (.const (.int .i64 1970)))), (1, (1, (.const (.int .i64 1)))), (2, (1, (.const (.int .i64 2))))])⟩, ⟨(some 32), none, (.call (.func 26) [(.tmp 30), (.tmp 31), (.const (.int .i64 7300))])⟩, ⟨(some 29), none, (.mv (.tmp 32))⟩, ⟨(some 33), none, (.ext (.tmp 29) 0)⟩, ⟨(some 34), none, (.ext (.tmp 29) 1)⟩, ⟨(some 8), none, (.mv (.tmp 33))⟩, ⟨(some 9), none, (.mv (.tmp 34))⟩]) (.seq (.reg [⟨(some 35), none, (.mv (.tmp 3))⟩, ⟨(some 36), none, (.bin .eql (.tmp 35) (.const (.int .i64 0)))⟩, ⟨(some 37), none, (.mv (.tmp 36))⟩, ⟨(some 38), (some (37, true)), (.mv (.tmp 5))⟩, ⟨(some 39), (some (37, true)), (.bin .eql (.tmp 38) (.const (.int .i64 0)))⟩, ⟨(some 40), none, (.pick (.tmp 37) (.tmp 39) (.const (.bool false)))⟩, ⟨(some 41), none, (.mv (.tmp 40))⟩, ⟨(some 42), (some (41, true)), (.mv (.tmp 7))⟩, ⟨(some 43), (some (41, true)), (.bin .eql (.tmp 42) (.const (.int .i64 0)))⟩, ⟨(some 44), none, (.pick (.tmp 41) (.tmp 43) (.const (.bool false)))⟩, ⟨(some 45), none, (.mv (.tmp 44))⟩, ⟨(some 46), (some (45, true)), (.mv (.tmp 9))⟩, ⟨(some 47), (some (45, true)), (.bin .eql (.tmp 46) (.const (.int .i64 0)))⟩, ⟨(some 48), none, (.pick (.tmp 45) (.tmp 47) (.const (.bool false)))⟩, ⟨(some 49), none, (.mv (.tmp 48))⟩, ⟨(some 50), (some (49, true)), (.load true 3 (.tmp 1))⟩, ⟨(some 51), (some (49, true)), (.build [(.v (.int .i64 0)), (.v (.int .i64 0)), (.v (.int .i64 0))] [(0, (1, (.const (.int .i64 1970)))), (1, (1, (.const (.int .i64 1)))), (2, (1, (.const (.int .i64 1))))])⟩, ⟨(some 52), (some (49, true)), (.eqs false [.int, .int, .int] (.tmp 50) (.tmp 51))⟩, ⟨(some 53), none, (.pick (.tmp 49) (.tmp 52) (.const (.bool false)))⟩, ⟨(some 54), none, (.mv (.tmp 53))⟩, ⟨(some 55), (some (54, true)), (.mv (.tmp 2))⟩, ⟨(some 56), (some (54, true)), (.bin .eql (.tmp 55) (.const (.int .i64 7300)))⟩, ⟨(some 57), none, (.pick (.tmp 54) (.tmp 56) (.const (.bool false)))⟩, ⟨(some 58), none, (.mv (.tmp 57))⟩, ⟨(some 59), (some (58, true)), (.mv (.tmp 4))⟩, ⟨(some 60), (some (58, true)), (.lit 3 1 1 [(.v (.int .i64 0))] [(0, (1, (.const (.int .i64 100))))])⟩, ⟨(some 61), (some (58, true)), (.call (.func 33) [(.tmp 59), (.tmp 60)])⟩, ⟨(some 62), none, (.pick (.tmp 58) (.tmp 61) (.const (.bool false)))⟩, ⟨(some 63), none, (.mv (.tmp 62))⟩, ⟨(some 64), (some (63, true)), (.mv (.tmp 6))⟩, ⟨(some 65), (some (63, true)), (.len false (.tmp 64))⟩, ⟨(some 66), (some (63, true)), (.bin .eql (.tmp 65) (.const (.int .i64 0)))⟩, ⟨(some 67), none, (.pick (.tmp 63) (.tmp 66) (.const (.bool false)))⟩, ⟨(some 68), none, (.mv (.tmp 67))⟩, ⟨(some 69), (some (68, true)), (.mv (.tmp 8))⟩, ⟨(some 70), (some (68, true)), (.lit 3 1 2 [(.v (.int .i64 0)), (.v (.int .i64 0))] [(0, (1, (.const (.int .i64 86500)))), (1, (1, (.const (.int .i64 90100))))])⟩, ⟨(some 71), (some (68, true)), (.call (.func 33) [(.tmp 69), (.tmp 70)])⟩, ⟨(some 72), none, (.pick (.tmp 68) (.tmp 71) (.const (.bool false)))⟩, ⟨(some 0), none, (.mv (.tmp 72))⟩]) .ret))))))
theorem k32 : compF Try.prog 32 = some ⟨c32, [(.tmp 0)], 73⟩ := by kernel_rfl
theorem i32 {h : AH} {R : AE → Prop} (hw : ∀ n, h.length = n → (∀ e ∈ h, e.lt n = true) → AV.ltL n [] = true → AV.bdL [] → aw Try.prog n c32 (retA [(.tmp 0)] fun x h' => ∃ z, h' = h ++ z ∧ x.lt n = true ∧ R x) [.any, .any, .any, .any, .any, .any, .any, .any, .any, .any, .any, .any, .any, .any, .any, .any, .any, .any, .any, .any, .any, .any, .any, .any, .any, .any, .any, .any, .any, .any, .any, .any, .any, .any, .any, .any, .any, .any, .any, .any, .any, .any, .any, .any, .any, .any, .any, .any, .any, .any, .any, .any, .any, .any, .any, .any, .any, .any, .any, .any, .any, .any, .any, .any, .any, .any, .any, .any, .any, .any, .any, .any, .any] (h ++ [])) : ACalls Try.prog 32 [] h fun x h' => h' = h ∧ R x := ACalls.into k32 rfl hw
theorem w32 {h : AH} {res : AV} (hw : ∀ n, h.length = n → (∀ e ∈ h, e.lt n = true) → AV.ltL n [] = true → AV.bdL [] → aw Try.prog n c32 (retA [(.tmp 0)] fun x h' => ∃ z, h' = h ++ z ∧ x.lt n = true ∧ ∃ c, x = .ret c ∧ Wk c res) [.any, .any, .any, .any, .any, .any, .any, .any, .any, .any, .any, .any, .any, .any, .any, .any, .any, .any, .any, .any, .any, .any, .any, .any, .any, .any, .any, .any, .any, .any, .any, .any, .any, .any, .any, .any, .any, .any, .any, .any, .any, .any, .any, .any, .any, .any, .any, .any, .any, .any, .any, .any, .any, .any, .any, .any, .any, .any, .any, .any, .any, .any, .any, .any, .any, .any, .any, .any, .any, .any, .any, .any, .any] (h ++ [])) : ACalls Try.prog 32 [] h fun x h' => h' = h ∧ x = .ret res := ACalls.weak (ACalls.into k32 rfl hw)
theorem n32 {h : AH} {R : AE → AH → Prop} (hw : ∀ n, h.length = n → (∀ e ∈ h, e.lt n = true) → AV.ltL n [] = true → AV.bdL [] → aw Try.prog n c32 (retA [(.tmp 0)] R) [.any, .any, .any, .any, .any, .any, .any, .any, .any, .any, .any, .any, .any, .any, .any, .any, .any, .any, .any, .any, .any, .any, .any, .any, .any, .any, .any, .any, .any, .any, .any, .any, .any, .any, .any, .any, .any, .any, .any, .any, .any, .any, .any, .any, .any, .any, .any, .any, .any, .any, .any, .any, .any, .any, .any, .any, .any, .any, .any, .any, .any, .any, .any, .any, .any, .any, .any, .any, .any, .any, .any, .any, .any] (h ++ [])) : ACalls Try.prog 32 [] h R := ACalls.intoN k32 rfl hw
theorem j32 {h : AH} {R : AE → AH → Prop} (hw : ∀ n, h.length = n → (∀ e ∈ h, e.lt n = true) → AV.ltL n [] = true → AV.bdL [] → aw Try.prog n c32 (retA [(.tmp 0)] fun x h' => ∃ y z, h' = y ++ z ∧ y.length = n ∧ (∀ e ∈ y, e.lt n = true) ∧ x.lt n = true ∧ R x y) [.any, .any, .any, .any, .any, .any, .any, .any, .any, .any, .any, .any, .any, .any, .any, .any, .any, .any, .any, .any, .any, .any, .any, .any, .any, .any, .any, .any, .any, .any, .any, .any, .any, .any, .any, .any, .any, .any, .any, .any, .any, .any, .any, .any, .any, .any, .any, .any, .any, .any, .any, .any, .any, .any, .any, .any, .any, .any, .any, .any, .any, .any, .any, .any, .any, .any, .any, .any, .any, .any, .any, .any, .any] (h ++ [])) : ACalls Try.prog 32 [] h R := ACalls.intoG k32 rfl hw
theorem lsmall_ok : checkT smallT = 0 := by kernel_rfl
theorem wall_small {f : Bool} {h : AH} : ACalls Try.prog 25 [.agg [iv smallT.1.1, iv smallT.1.2.1, sv smallT.1.2.2, .sl smallT.2.length 4 f (rows chgC smallT.2)], iv 100] h fun x h' => h' = h ∧ x = .ret (.tup [dateA (1970, 1, 1), iv 7300, iv 0]) := by
  have := wall_a (t := smallT) (n := 100) (full := f) (h := h) okT_small
  rw [show wallD smallT 100 = (1970, 1, 1) by kernel_rfl, show wallS smallT 100 = 7300 by kernel_rfl, show wallE smallT 100 = 0 by kernel_rfl] at this
  exact this
theorem when_small {y m d s N : Int} {L : List Int} {f : Bool} {h : AH} (he : whenE smallT (y, m, d) s = 0) (hN : num y m d * 86400 + s = N) (hL : spA smallT N = L) (hp : L.Pairwise (· ≤ ·)) : ACalls Try.prog 26 [.agg [iv smallT.1.1, iv smallT.1.2.1, sv smallT.1.2.2, .sl smallT.2.length 4 f (rows chgC smallT.2)], .agg [iv y, iv m, iv d], iv s] h fun x h' => h' = h ∧ x = .ret (.tup [.sl L.length 1 false (rows intC L), iv 0]) := by
  have := when_a (t := smallT) (y := y) (m := m) (d := d) (s := s) (full := f) (h := h) okT_small
  have e : whenV smallT (y, m, d) s = L := by
    rw [whenV, if_pos he, hN, ← spA_when lsmall_ok N, hL]
    exact (sortI_uniq (List.Perm.refl _) hp).symm
  rw [he, e] at this
  exact this
theorem sameIntsO_a {l m : List Int} {f1 : Bool} {id v ty : Nat} {h : AH} (hid : h[id]? = some (.mk v ty 1 (rows intC m))) : ACalls Try.prog 33 [.sl l.length 1 f1 (rows intC l), .own id v m.length] h fun x h' => h' = h ∧ x = .ret (bv (decide (l = m))) := by
  refine i33 ?_
  intro N hn hlt hlA hbd
  try simp only [AV.bdL, AV.bd, and_true, true_and] at hbd
  refine w_seq ?_
  refine w_reg ?_
  refine s_val rfl (v_mv lkb) pt4 ?_
  refine s_nil ?_
  refine n_seq ?_
  refine w_seq ?_
  refine w_seq ?_
  refine w_reg ?_
  refine s_val rfl (v_mv lk0) pt6 ?_
  refine s_val rfl (v_lenL lk6) pt7 ?_
  refine s_val rfl (v_mv lk1) pt8 ?_
  refine s_val rfl (v_lenO lk8) pt9 ?_
  refine s_val rfl (v_neq lk7 lk9) pt10 ?_
  refine s_nil ?_
  refine n_seq ?_
  first | refine w_cond lk10 (fun hc1 => ?_) (fun hc1 => ?_) | refine w_condB lk10 (fun hc1 => ?_) (fun hc1 => ?_)
  · skip
    refine w_seq ?_
    refine w_reg ?_
    refine s_val rfl (v_mv lkb) pt4 ?_
    refine s_nil ?_
    refine n_seq ?_
    refine w_rets ?_
    refine r_thn ?_
    refine w_ret (rs1 (rr_t gt4)) ?_
    refine rt (by first | rfl | (simp only [AV.lt, AV.ltL, Ent.lt, List.all_cons, List.all_nil, Bool.and_true, Bool.and_self, decide_true, chg_lt, int_lt]; done) | (simp [AV.lt, AV.ltL, Ent.lt, chg_lt, int_lt, *]; done) | (simp [AV.lt, AV.ltL, Ent.lt, chg_lt, int_lt, *]; omega)) ?_
    refine bvx (decide_eq_false (fun e => hc1 (by rw [e]))).symm
  · skip
    refine w_skip ?_
    refine n_seq ?_
    refine w_seq ?_
    refine w_seq ?_
    refine w_reg ?_
    refine s_val rfl (v_mv lki) pt5 ?_
    refine s_nil ?_
    refine n_seq ?_
    refine w_block ?_
    refine w_loop (ι := Nat) (fun (k : Nat) => [(5, iv (k : Int)), (4, .any), (11, .any), (12, .any), (13, .any), (14, .any), (15, .any), (16, .any), (17, .any), (18, .any), (19, .any), (20, .any), (21, .any), (22, .any), (23, .any), (24, .any), (25, .any)]) (fun (k : Nat) => []) (fun (k : Nat) => k ≤ l.length ∧ l.length = m.length ∧ l.take k = m.take k) (fun (k : Nat) => l.length - k) (0) (by exact ⟨by omega, by omega, by simp⟩) (by try simp only [setsT, setsE, List.set_cons_zero, List.set_cons_succ]; exact ALe.same (wk1 rfl (wk1 rfl (wk1 rfl (wk1 rfl (wka (wk1 (by first | rfl | exact ivx (by omega) | (simp; done)) (wk1 rfl (wk1 rfl (wk1 rfl (wk1 rfl (wk1 rfl (wka (wka (wka (wka (wka (wka (wka (wka (wka (wka (wka (wka (wka (wka (wka wk0)))))))))))))))))))))))))) rfl) ?_
    rintro k hi1
    try simp only [setsT, setsE, List.set_cons_zero, List.set_cons_succ]
    obtain ⟨hk1, hk2, hk3⟩ := hi1
    refine w_seq ?_
    refine w_seq ?_
    refine w_reg ?_
    refine s_val rfl (v_mv lk5) pt11 ?_
    refine s_val rfl (v_mv lk0) pt12 ?_
    refine s_val rfl (v_lenL lk12) pt13 ?_
    refine s_val rfl (v_lss lk11 lk13) pt14 ?_
    refine s_nil ?_
    refine n_seq ?_
    first | refine w_cond lk14 (fun hc2 => ?_) (fun hc2 => ?_) | refine w_condB lk14 (fun hc2 => ?_) (fun hc2 => ?_)
    · skip
      refine w_skip ?_
      refine n_seq ?_
      refine w_seq ?_
      refine w_block ?_
      refine w_seq ?_
      refine w_drwE ?_
      refine d_val rfl (v_mv lk0) pt17 ?_
      refine d_val rfl (v_mv lk5) pt18 ?_
      refine d_val rfl (v_iaR lk17 lk18 int_len1 (Nat.le_of_ble_eq_true rfl) (by first | rfl | omega) (by omega) (by first | rfl | omega) rfl) pt19 ?_
      refine d_val rfl (v_loadr lk19 gt0) pt20 ?_
      refine d_val rfl (v_mv lk1) pt21 ?_
      refine d_val rfl (v_mv lk5) pt22 ?_
      refine d_val rfl (v_iaOR lk21 lk22 (hx_app hid) int_len1 (Nat.le_of_ble_eq_true rfl) (by first | rfl | omega) (by omega) (by first | rfl | (simp; done) | omega)) pt23 ?_
      refine d_val rfl (v_ldOR1 lk23 (hx_app hid) int_len1 (by omega) rfl) pt24 ?_
      refine d_val rfl ((by first | exact v_neq lk20 lk24 | exact v_neqS lk20 lk24)) pt25 ?_
      refine d_nil ?_
      refine e_nil ?_
      refine s_nil ?_
      refine n_seq ?_
      first | refine w_cond lk25 (fun hc3 => ?_) (fun hc3 => ?_) | refine w_condB lk25 (fun hc3 => ?_) (fun hc3 => ?_)
      · skip
        refine w_seq ?_
        refine w_reg ?_
        refine s_val rfl (v_mv lkb) pt4 ?_
        refine s_nil ?_
        refine n_seq ?_
        refine w_rets ?_
        refine r_blk ?_
        refine r_thn ?_
        refine r_thn ?_
        refine r_blk ?_
        refine r_thn ?_
        refine w_ret (rs1 (rr_t gt4)) ?_
        refine rt (by first | rfl | (simp only [AV.lt, AV.ltL, Ent.lt, List.all_cons, List.all_nil, Bool.and_true, Bool.and_self, decide_true, chg_lt, int_lt]; done) | (simp [AV.lt, AV.ltL, Ent.lt, chg_lt, int_lt, *]; done) | (simp [AV.lt, AV.ltL, Ent.lt, chg_lt, int_lt, *]; omega)) ?_
        refine bvx (decide_eq_false (fun e => hc3 (by subst e; simp))).symm
      · skip
        refine w_skip ?_
        refine n_blk ?_
        refine n_seq ?_
        refine w_reg ?_
        refine s_val rfl (v_mv lk5) pt15 ?_
        refine s_val rfl (v_add lk15 lki (by omega) (by omega)) pt16 ?_
        refine s_val rfl (v_mv lk16) pt5 ?_
        refine s_nil ?_
        refine n_thn ?_
        refine LoopTo.mk (k + 1) (by omega) (by (try dsimp only); exact ⟨by omega, hk2, by rw [List.take_succ_eq_append_getElem (by omega), List.take_succ_eq_append_getElem (by omega), hk3, Decidable.of_not_not hc3]⟩) (by (try dsimp only); (try simp only [setsT, setsE, List.set_cons_zero, List.set_cons_succ]); exact ALe.same (wk1 rfl (wk1 rfl (wk1 rfl (wk1 rfl (wka (wk1 (by first | rfl | exact ivx (by omega) | (simp; done)) (wk1 rfl (wk1 rfl (wk1 rfl (wk1 rfl (wk1 rfl (wka (wka (wka (wka (wka (wka (wka (wka (wka (wka (wka (wka (wka (wka (wka wk0)))))))))))))))))))))))))) rfl)
    · skip
      refine w_exit ?_
      refine x_thn ?_
      refine x_thn ?_
      refine x_blk ?_
      refine n_seq ?_
      refine w_seq ?_
      refine w_reg ?_
      refine s_val rfl (v_mv lkb) pt4 ?_
      refine s_nil ?_
      refine n_seq ?_
      refine w_rets ?_
      refine w_ret (rs1 (rr_t gt4)) ?_
      refine rt (by first | rfl | (simp only [AV.lt, AV.ltL, Ent.lt, List.all_cons, List.all_nil, Bool.and_true, Bool.and_self, decide_true, chg_lt, int_lt]; done) | (simp [AV.lt, AV.ltL, Ent.lt, chg_lt, int_lt, *]; done) | (simp [AV.lt, AV.ltL, Ent.lt, chg_lt, int_lt, *]; omega)) ?_
      refine bvx (decide_eq_true ?_).symm
      rw [List.take_of_length_le (by omega), List.take_of_length_le (by omega)] at hk3
      exact hk3
theorem lbegun_a {h : AH} : ACalls Try.prog 32 [] h fun x h' => h' = h ∧ x = .ret (bv true) := by
  refine i32 ?_
  intro N hn hlt hlA hbd
  try simp only [AV.bdL, AV.bd, and_true, true_and] at hbd
  refine w_seq ?_
  refine w_reg ?_
  refine s_val rfl (v_mv lkb) pt0 ?_
  refine s_nil ?_
  refine n_seq ?_
  refine w_seq ?_
  refine w_reg ?_
  refine s_callp mp0 (small_a) pt11 ?_
  refine s_callp (mp1 lk11 (mp1 lki mp0)) (wall_small) pt12 ?_
  refine s_val rfl (v_mv lk12) pt10 ?_
  refine s_val rfl (v_ext lk10 gt0) pt13 ?_
  refine s_val rfl (v_ext lk10 gt1) pt14 ?_
  refine s_val rfl (v_ext lk10 gt2) pt15 ?_
  refine s_eff rfl rfl (e_new (hl0 hn) ha0) pt1 ?_
  refine s_eff rfl rfl (e_store lk1 (cvl lk13 rfl) (hga hn rfl) rfl (Nat.le_of_ble_eq_true rfl) rfl LBegun_sc0_3 (hs0 hn)) ptn ?_
  refine s_val rfl (v_mv lk14) pt2 ?_
  refine s_val rfl (v_mv lk15) pt3 ?_
  refine s_nil ?_
  refine n_seq ?_
  refine w_seq ?_
  refine w_drwE ?_
  refine d_callp mp0 (fun hE hX => small_a) pt17 ?_
  refine d_val rfl (v_loadpA lk1 (hga hn rfl) LBegun_tk0_3 rfl) pt18 ?_
  refine d_val rfl (v_mv lk2) pt19 ?_
  refine d_callp (mp1 lk17 (mp1 lk18 (mp1 lk19 mp0))) (fun hE hX => when_small (y := 1970) (m := 1) (d := 1) (s := 7300) (N := 7300) (L := [100]) (by kernel_rfl) (by kernel_rfl) (by kernel_rfl) (by decide)) pt20 ?_
  refine d_val rfl (v_mv lk20) pt16 ?_
  refine d_val rfl (v_ext lk16 gt0) pt21 ?_
  refine d_val rfl (v_ext lk16 gt1) pt22 ?_
  refine d_val rfl (v_mv lk21) pt4 ?_
  refine d_val rfl (v_mv lk22) pt5 ?_
  refine d_nil ?_
  refine e_nil ?_
  refine s_nil ?_
  refine n_seq ?_
  refine w_seq ?_
  refine w_drwE ?_
  refine d_callp mp0 (fun hE hX => small_a) pt24 ?_
  refine d_val rfl (v_loadpA lk1 (hga hn rfl) LBegun_tk0_3 rfl) pt25 ?_
  refine d_callp (mp1 lk24 (mp1 lk25 (mp1 lki mp0))) (fun hE hX => when_small (y := 1970) (m := 1) (d := 1) (s := 3700) (N := 3700) (L := []) (by kernel_rfl) (by kernel_rfl) (by kernel_rfl) (by decide)) pt26 ?_
  refine d_val rfl (v_mv lk26) pt23 ?_
  refine d_val rfl (v_ext lk23 gt0) pt27 ?_
  refine d_val rfl (v_ext lk23 gt1) pt28 ?_
  refine d_val rfl (v_mv lk27) pt6 ?_
  refine d_val rfl (v_mv lk28) pt7 ?_
  refine d_nil ?_
  refine e_nil ?_
  refine s_nil ?_
  refine n_seq ?_
  refine w_seq ?_
  refine w_reg ?_
  refine s_callp mp0 (small_a) pt30 ?_
  refine s_val rfl (v_build (LBegun_localBegun_30 (cvl lki rfl) rfl (cvl lki rfl) rfl (cvl lki rfl) rfl)) pt31 ?_
  refine s_callp (mp1 lk30 (mp1 lk31 (mp1 lki mp0))) (when_small (y := 1970) (m := 1) (d := 2) (s := 7300) (N := 93700) (L := [86500, 90100]) (by kernel_rfl) (by kernel_rfl) (by kernel_rfl) (by decide)) pt32 ?_
  refine s_val rfl (v_mv lk32) pt29 ?_
  refine s_val rfl (v_ext lk29 gt0) pt33 ?_
  refine s_val rfl (v_ext lk29 gt1) pt34 ?_
  refine s_val rfl (v_mv lk33) pt8 ?_
  refine s_val rfl (v_mv lk34) pt9 ?_
  refine s_nil ?_
  refine n_seq ?_
  refine w_seq ?_
  refine w_reg ?_
  refine s_val rfl (v_mv lk3) pt35 ?_
  refine s_val rfl (v_eql lk35 lki) pt36 ?_
  refine s_val rfl (v_mv lk36) pt37 ?_
  refine s_known gt37 (b := true) (by exact decide_eq_true rfl) pt37 ?_
  refine s_do gt37 ?_
  refine s_val rfl (v_mv lk5) pt38 ?_
  refine s_do gt37 ?_
  refine s_val rfl (v_eql lk38 lki) pt39 ?_
  refine s_val rfl (v_pickT lk37 lk39) pt40 ?_
  refine s_val rfl (v_mv lk40) pt41 ?_
  refine s_known gt41 (b := true) (by exact decide_eq_true rfl) pt41 ?_
  refine s_do gt41 ?_
  refine s_val rfl (v_mv lk7) pt42 ?_
  refine s_do gt41 ?_
  refine s_val rfl (v_eql lk42 lki) pt43 ?_
  refine s_val rfl (v_pickT lk41 lk43) pt44 ?_
  refine s_val rfl (v_mv lk44) pt45 ?_
  refine s_known gt45 (b := true) (by exact decide_eq_true rfl) pt45 ?_
  refine s_do gt45 ?_
  refine s_val rfl (v_mv lk9) pt46 ?_
  refine s_do gt45 ?_
  refine s_val rfl (v_eql lk46 lki) pt47 ?_
  refine s_val rfl (v_pickT lk45 lk47) pt48 ?_
  refine s_val rfl (v_mv lk48) pt49 ?_
  refine s_known gt49 (b := true) (by exact decide_eq_true rfl) pt49 ?_
  refine s_do gt49 ?_
  refine s_val rfl (v_loadpA lk1 (hga hn rfl) LBegun_tk0_3 rfl) pt50 ?_
  refine s_do gt49 ?_
  refine s_val rfl (v_build (LBegun_localBegun_53 (cvl lki rfl) rfl (cvl lki rfl) rfl (cvl lki rfl) rfl)) pt51 ?_
  refine s_do gt49 ?_
  refine s_val rfl (v_eqsT lk50 lk51 LBegun_eq_iii) pt52 ?_
  refine s_val rfl (v_pickT lk49 lk52) pt53 ?_
  refine s_val rfl (v_mv lk53) pt54 ?_
  refine s_known gt54 (b := true) (by exact decide_eq_true ⟨rfl, rfl, rfl⟩) pt54 ?_
  refine s_do gt54 ?_
  refine s_val rfl (v_mv lk2) pt55 ?_
  refine s_do gt54 ?_
  refine s_val rfl (v_eql lk55 lki) pt56 ?_
  refine s_val rfl (v_pickT lk54 lk56) pt57 ?_
  refine s_val rfl (v_mv lk57) pt58 ?_
  refine s_known gt58 (b := true) (by exact decide_eq_true rfl) pt58 ?_
  refine s_do gt58 ?_
  refine s_val rfl (v_mv lk4) pt59 ?_
  refine s_do gt58 ?_
  refine s_eff rfl rfl (e_lit (LBegun_localBegun_62 (cvl lki rfl) rfl) (hl1 hn) ha1) pt60 ?_
  refine s_do gt58 ?_
  refine s_callp (mp1 lk59 (mp1 lk60 mp0)) (sameIntsO_a (l := [100]) (m := [100]) (hga hn rfl)) pt61 ?_
  refine s_val rfl (v_pickT lk58 lk61) pt62 ?_
  refine s_val rfl (v_mv lk62) pt63 ?_
  refine s_known gt63 (b := true) (by exact decide_eq_true rfl) pt63 ?_
  refine s_do gt63 ?_
  refine s_val rfl (v_mv lk6) pt64 ?_
  refine s_do gt63 ?_
  refine s_val rfl (v_lenL lk64) pt65 ?_
  refine s_do gt63 ?_
  refine s_val rfl (v_eql lk65 lki) pt66 ?_
  refine s_val rfl (v_pickT lk63 lk66) pt67 ?_
  refine s_val rfl (v_mv lk67) pt68 ?_
  refine s_known gt68 (b := true) (by exact decide_eq_true rfl) pt68 ?_
  refine s_do gt68 ?_
  refine s_val rfl (v_mv lk8) pt69 ?_
  refine s_do gt68 ?_
  refine s_eff rfl rfl (e_lit (LBegun_localBegun_72 (cvl lki rfl) rfl (cvl lki rfl) rfl) (hl2 hn) ha2) (ptS pt0) ?_
  refine s_do gt68 ?_
  refine s_callp (mp1 lk69 (mp1 (lkS lk0) mp0)) (sameIntsO_a (l := [86500, 90100]) (m := [86500, 90100]) (hga hn rfl)) (ptS pt1) ?_
  refine s_val rfl (v_pickT lk68 (lkS lk1)) (ptS pt2) ?_
  refine s_val rfl (v_mv (lkS lk2)) pt0 ?_
  refine s_nil ?_
  refine n_seq ?_
  refine w_rets ?_
  refine w_ret (rs1 (rr_t gt0)) ?_
  refine rt (by first | rfl | (simp only [AV.lt, AV.ltL, Ent.lt, List.all_cons, List.all_nil, Bool.and_true, Bool.and_self, decide_true, chg_lt, int_lt]; done) | (simp [AV.lt, AV.ltL, Ent.lt, chg_lt, int_lt, *]; done) | (simp [AV.lt, AV.ltL, Ent.lt, chg_lt, int_lt, *]; omega)) ?_
  rfl
end Go.Proofs.Ytmbebimingkfeaa
