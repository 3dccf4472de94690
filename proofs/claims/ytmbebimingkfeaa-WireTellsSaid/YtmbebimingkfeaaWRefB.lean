/-
  Contracts on plain data: the reference's Take and DecodeOf. Conditions: those that each theorem names.
-/
import Derived.Test.YtmbebimingkfeaaWRefA
set_option linter.unusedVariables false
set_option linter.unusedSimpArgs false
set_option maxRecDepth 100000
namespace Go.Proofs.Ytmbebimingkfeaa
open Go.Ab Civ
section
theorem WRefB_sc2_1 {a0 a1 a2 c0 : AV} {l : List AV} : setCells (a0 :: a1 :: a2 :: l) 2 [c0] = a0 :: a1 :: c0 :: l := rfl
theorem WRefB_sc1_1 {a0 a1 c0 : AV} {l : List AV} : setCells (a0 :: a1 :: l) 1 [c0] = a0 :: c0 :: l := rfl
end
/-- (*datelineref.Numbers).Take -/
def c48 : AC := (.seq (.reg [⟨(some 4), none, (.mv (.const (.int .i64 0)))⟩]) (.seq (.seq (.drw [⟨(some 8), none, (.mv (.tmp 0))⟩, ⟨(some 9), none, (.nck (.tmp 8))⟩, ⟨(some 10), none, (.fa 2 (.tmp 9))⟩, ⟨(some 11), none, (.load false 1 (.tmp 10))⟩, ⟨(some 12), none, (.mv (.tmp 11))⟩, ⟨(some 13), (some (12, false)), (.mv (.tmp 0))⟩, ⟨(some 14), (some (12, false)), (.nck (.tmp 13))⟩, ⟨(some 15), (some (12, false)), (.fa 0 (.tmp 14))⟩, ⟨(some 16), (some (12, false)), (.load false 1 (.tmp 15))⟩, ⟨(some 17), (some (12, false)), (.len true (.tmp 16))⟩, ⟨(some 18), (some (12, false)), (.mv (.tmp 0))⟩, ⟨(some 19), (some (12, false)), (.nck (.tmp 18))⟩, ⟨(some 20), (some (12, false)), (.fa 1 (.tmp 19))⟩, ⟨(some 21), (some (12, false)), (.load false 1 (.tmp 20))⟩, ⟨(some 22), (some (12, false)), (.bin .sub (.tmp 17) (.tmp 21))⟩, ⟨(some 23), (some (12, false)), (.mv (.tmp 1))⟩, ⟨(some 24), (some (12, false)), (.bin .lss (.tmp 22) (.tmp 23))⟩, ⟨(some 25), none, (.pick (.tmp 12) (.const (.bool true)) (.tmp 24))⟩] [] []) (.cond (.tmp 25) (.seq (.reg [⟨(some 26), none, (.mv (.tmp 0))⟩, ⟨(some 27), none, (.nck (.tmp 26))⟩, ⟨(some 28), none, (.fa 2 (.tmp 27))⟩, ⟨none, none, (.store 1 (.tmp 28) (.const (.bool true)))⟩]) (.seq (.reg [⟨(some 4), none, (.mv (.const (.int .i64 0)))⟩]) .ret)) .skip)) (.seq (.reg [⟨(some 5), none, (.mv (.const (.int .i64 0)))⟩, ⟨(some 6), none, (.mv (.const (.int .i64 1)))⟩]) (.seq (.seq (.reg [⟨(some 7), none, (.mv (.const (.int .i64 0)))⟩]) (.block 0 (.loop (.seq (.seq (.reg [⟨(some 29), none, (.mv (.tmp 7))⟩, ⟨(some 30), none, (.mv (.tmp 1))⟩, ⟨(some 31), none, (.bin .lss (.tmp 29) (.tmp 30))⟩]) (.cond (.tmp 31) .skip (.exit 0))) (.seq (.block 1 (.seq (.drw [⟨(some 34), none, (.mv (.tmp 5))⟩, ⟨(some 35), none, (.mv (.tmp 0))⟩, ⟨(some 36), none, (.nck (.tmp 35))⟩, ⟨(some 37), none, (.fa 0 (.tmp 36))⟩, ⟨(some 38), none, (.load false 1 (.tmp 37))⟩, ⟨(some 39), none, (.mv (.tmp 0))⟩, ⟨(some 40), none, (.nck (.tmp 39))⟩, ⟨(some 41), none, (.fa 1 (.tmp 40))⟩, ⟨(some 42), none, (.load false 1 (.tmp 41))⟩, ⟨(some 43), none, (.ix (.tmp 38) (.tmp 42))⟩, ⟨(some 44), none, (.cvi .i64 (.tmp 43))⟩, ⟨(some 45), none, (.mv (.tmp 6))⟩, ⟨(some 46), none, (.bin .mul (.tmp 44) (.tmp 45))⟩, ⟨(some 47), none, (.bin .add (.tmp 34) (.tmp 46))⟩, ⟨(some 5), none, (.mv (.tmp 47))⟩] [] []) (.seq (.reg [⟨(some 48), none, (.mv (.tmp 6))⟩, ⟨(some 49), none, (.bin .mul (.tmp 48) (.const (.int .i64 256)))⟩, ⟨(some 6), none, (.mv (.tmp 49))⟩]) (.reg [⟨(some 50), none, (.mv (.tmp 0))⟩, ⟨(some 51), none, (.nck (.tmp 50))⟩, ⟨(some 52), none, (.fa 1 (.tmp 51))⟩, ⟨(some 53), none, (.load false 1 (.tmp 52))⟩, ⟨(some 54), none, (.bin .add (.tmp 53) (.const (.int .i64 1)))⟩, ⟨(some 55), none, (.nck (.tmp 50))⟩, ⟨(some 56), none, (.fa 1 (.tmp 55))⟩, ⟨none, none, (.store 1 (.tmp 56) (.tmp 54))⟩])))) (.reg [⟨(some 32), none, (.mv (.tmp 7))⟩, ⟨(some 33), none, (.bin .add (.tmp 32) (.const (.int .i64 1)))⟩, ⟨(some 7), none, (.mv (.tmp 33))⟩])))))) (.seq (.reg [⟨(some 57), none, (.mv (.tmp 5))⟩, ⟨(some 4), none, (.mv (.tmp 57))⟩]) .ret)))))
theorem k48 : compF Try.prog 48 = some ⟨c48, [(.tmp 4)], 58⟩ := by kernel_rfl
theorem i48 {a0 a1 : AV} {h : AH} {R : AE → Prop} (hw : ∀ n, h.length = n → (∀ e ∈ h, e.lt n = true) → AV.ltL n [a0, a1] = true → AV.bdL [a0, a1] → aw Try.prog n c48 (retA [(.tmp 4)] fun x h' => ∃ z, h' = h ++ z ∧ x.lt n = true ∧ R x) [a0, a1, .any, .any, .any, .any, .any, .any, .any, .any, .any, .any, .any, .any, .any, .any, .any, .any, .any, .any, .any, .any, .any, .any, .any, .any, .any, .any, .any, .any, .any, .any, .any, .any, .any, .any, .any, .any, .any, .any, .any, .any, .any, .any, .any, .any, .any, .any, .any, .any, .any, .any, .any, .any, .any, .any, .any, .any] (h ++ [])) : ACalls Try.prog 48 [a0, a1] h fun x h' => h' = h ∧ R x := ACalls.into k48 rfl hw
theorem w48 {a0 a1 : AV} {h : AH} {res : AV} (hw : ∀ n, h.length = n → (∀ e ∈ h, e.lt n = true) → AV.ltL n [a0, a1] = true → AV.bdL [a0, a1] → aw Try.prog n c48 (retA [(.tmp 4)] fun x h' => ∃ z, h' = h ++ z ∧ x.lt n = true ∧ ∃ c, x = .ret c ∧ Wk c res) [a0, a1, .any, .any, .any, .any, .any, .any, .any, .any, .any, .any, .any, .any, .any, .any, .any, .any, .any, .any, .any, .any, .any, .any, .any, .any, .any, .any, .any, .any, .any, .any, .any, .any, .any, .any, .any, .any, .any, .any, .any, .any, .any, .any, .any, .any, .any, .any, .any, .any, .any, .any, .any, .any, .any, .any, .any, .any] (h ++ [])) : ACalls Try.prog 48 [a0, a1] h fun x h' => h' = h ∧ x = .ret res := ACalls.weak (ACalls.into k48 rfl hw)
theorem n48 {a0 a1 : AV} {h : AH} {R : AE → AH → Prop} (hw : ∀ n, h.length = n → (∀ e ∈ h, e.lt n = true) → AV.ltL n [a0, a1] = true → AV.bdL [a0, a1] → aw Try.prog n c48 (retA [(.tmp 4)] R) [a0, a1, .any, .any, .any, .any, .any, .any, .any, .any, .any, .any, .any, .any, .any, .any, .any, .any, .any, .any, .any, .any, .any, .any, .any, .any, .any, .any, .any, .any, .any, .any, .any, .any, .any, .any, .any, .any, .any, .any, .any, .any, .any, .any, .any, .any, .any, .any, .any, .any, .any, .any, .any, .any, .any, .any, .any, .any] (h ++ [])) : ACalls Try.prog 48 [a0, a1] h R := ACalls.intoN k48 rfl hw
theorem j48 {a0 a1 : AV} {h : AH} {R : AE → AH → Prop} (hw : ∀ n, h.length = n → (∀ e ∈ h, e.lt n = true) → AV.ltL n [a0, a1] = true → AV.bdL [a0, a1] → aw Try.prog n c48 (retA [(.tmp 4)] fun x h' => ∃ y z, h' = y ++ z ∧ y.length = n ∧ (∀ e ∈ y, e.lt n = true) ∧ x.lt n = true ∧ R x y) [a0, a1, .any, .any, .any, .any, .any, .any, .any, .any, .any, .any, .any, .any, .any, .any, .any, .any, .any, .any, .any, .any, .any, .any, .any, .any, .any, .any, .any, .any, .any, .any, .any, .any, .any, .any, .any, .any, .any, .any, .any, .any, .any, .any, .any, .any, .any, .any, .any, .any, .any, .any, .any, .any, .any, .any, .any, .any] (h ++ [])) : ACalls Try.prog 48 [a0, a1] h R := ACalls.intoG k48 rfl hw
theorem nm_take : ∀ (L : List UInt8) (k : Nat) (h : k < L.length), nm (L.take (k + 1)) = nm (L.take k) + (L[k].toNat : Int) * 256 ^ k
  | [], k, h => by simp at h
  | b :: L, 0, h => by simp [nm]
  | b :: L, k + 1, h => by
    have hk : k < L.length := by simpa using h
    have := nm_take L k (by simpa using h)
    simp only [List.take_succ_cons, nm, List.getElem_cons_succ, this, Int.pow_succ]
    rw [Int.mul_add, ← Int.mul_assoc, Int.mul_comm 256 (L[k].toNat : Int), Int.mul_assoc, Int.mul_comm 256 ((256 : Int) ^ k), Int.add_assoc]
def short (S : List UInt8) (p n : Nat) (b : Bool) : Prop := b = true ∨ S.length - p < n
instance (S : List UInt8) (p n : Nat) (b : Bool) : Decidable (short S p n b) := by unfold short; infer_instance
def tX (S : List UInt8) (p n : Nat) (b : Bool) : Int := if short S p n b then 0 else nm ((S.drop p).take n)
def tP (S : List UInt8) (p n : Nat) (b : Bool) : Nat := if short S p n b then p else p + n
def tF (S : List UInt8) (p n : Nat) (b : Bool) : Bool := decide (short S p n b)
theorem tP_le {S : List UInt8} {p n : Nat} {b : Bool} (h : p ≤ S.length) : tP S p n b ≤ S.length := by
  unfold tP
  split
  · exact h
  · rename_i h1; unfold short at h1; omega
theorem rtake_a {S : List UInt8} {p n : Nat} {b : Bool} {id v0 ty : Nat} {h : AH} (h1 : h[id]? = some (.mk v0 ty 3 [sb S, iv (p : Int), bv b])) (hp : p ≤ S.length) (hn5 : n ≤ 5) (hS : S.length ≤ 9223372036854775807) :
    ACalls Try.prog 48 [.ptr id v0 0, iv (n : Int)] h fun r h' => r = .ret (iv (tX S p n b)) ∧ h' = h.set id (.mk v0 ty 3 [sb S, iv (tP S p n b : Int), bv (tF S p n b)]) := by
  have hid : id < h.length := (List.getElem?_eq_some_iff.1 h1).1
  refine j48 ?_
  intro N hn hlt hlA hbd
  try simp only [AV.bdL, AV.bd, and_true, true_and] at hbd
  refine aw_heap (h1 := h.set id (.mk v0 ty 3 [sb S, iv (p : Int), bv b]) ++ []) (by rw [hx_self h1]) ?_
  refine w_seq ?_
  refine w_reg ?_
  refine s_val rfl (v_mv lki) pt4 ?_
  refine s_nil ?_
  refine n_seq ?_
  refine w_seq ?_
  refine w_seq ?_
  refine w_drwE ?_
  refine d_val rfl (v_mv lk0) pt8 ?_
  refine d_val rfl (v_nckp lk8) pt9 ?_
  refine d_val rfl (v_fap0 lk9) pt10 ?_
  refine d_val rfl (v_loadp lk10 (hx_at hid) gt2) pt11 ?_
  refine d_val rfl (v_mv lk11) pt12 ?_
  refine d_splitB gt12 pt12 pt12 (fun hg12 => ?_) (fun hg12 => ?_)
  · skip
    have hs : short S p n b := Or.inl (by simpa using hg12)
    refine d_no gt12 pt13 ?_
    refine d_no gt12 pt14 ?_
    refine d_no gt12 pt15 ?_
    refine d_no gt12 pt16 ?_
    refine d_no gt12 pt17 ?_
    refine d_no gt12 pt18 ?_
    refine d_no gt12 pt19 ?_
    refine d_no gt12 pt20 ?_
    refine d_no gt12 pt21 ?_
    refine d_no gt12 pt22 ?_
    refine d_no gt12 pt23 ?_
    refine d_no gt12 pt24 ?_
    refine d_val rfl (v_pickT lk12 lkb) pt25 ?_
    refine d_nil ?_
    refine e_nil ?_
    refine s_nil ?_
    refine n_seq ?_
    refine w_condT lk25 ?_
    refine w_seq ?_
    refine w_reg ?_
    refine s_val rfl (v_mv lk0) pt26 ?_
    refine s_val rfl (v_nckp lk26) pt27 ?_
    refine s_val rfl (v_fap0 lk27) pt28 ?_
    refine s_eff rfl rfl (e_store lk28 (cvl lkb rfl) (hx_at hid) rfl (Nat.le_of_ble_eq_true rfl) rfl WRefB_sc2_1 (hx_set hid)) ptn ?_
    refine s_nil ?_
    refine n_seq ?_
    refine w_seq ?_
    refine w_reg ?_
    refine s_val rfl (v_mv lki) pt4 ?_
    refine s_nil ?_
    refine n_seq ?_
    refine w_rets ?_
    refine r_thn ?_
    refine w_ret (rs1 (rr_t gt4)) ?_
    refine ⟨_, _, rfl, hx_len hn, hx_lt hlt (by simp [Ent.lt, AV.lt, AV.ltL, *]), rfl, ?_, ?_⟩
    rw [tX, if_pos hs]
    rw [tP, tF, if_pos hs, decide_eq_true hs]
  · skip
    refine d_do gt12 ?_
    refine d_val rfl (v_mv lk0) pt13 ?_
    refine d_do gt12 ?_
    refine d_val rfl (v_nckp lk13) pt14 ?_
    refine d_do gt12 ?_
    refine d_val rfl (v_fap0 lk14) pt15 ?_
    refine d_do gt12 ?_
    refine d_val rfl (v_loadp lk15 (hx_at hid) gt0) pt16 ?_
    refine d_do gt12 ?_
    refine d_val rfl (v_lenS lk16) pt17 ?_
    refine d_do gt12 ?_
    refine d_val rfl (v_mv lk0) pt18 ?_
    refine d_do gt12 ?_
    refine d_val rfl (v_nckp lk18) pt19 ?_
    refine d_do gt12 ?_
    refine d_val rfl (v_fap0 lk19) pt20 ?_
    refine d_do gt12 ?_
    refine d_val rfl (v_loadp lk20 (hx_at hid) gt1) pt21 ?_
    refine d_do gt12 ?_
    refine d_val rfl (v_sub lk17 lk21 (by (try simp only [sb_size]); omega) (by (try simp only [sb_size]); omega)) pt22 ?_
    refine d_do gt12 ?_
    refine d_val rfl (v_mv lk1) pt23 ?_
    refine d_do gt12 ?_
    refine d_val rfl (v_lss lk22 lk23) pt24 ?_
    refine d_val rfl (v_pickF lk12 lk24) pt25 ?_
    refine d_nil ?_
    refine e_nil ?_
    refine s_nil ?_
    refine n_seq ?_
    first | refine w_cond lk25 (fun hc1 => ?_) (fun hc1 => ?_) | refine w_condB lk25 (fun hc1 => ?_) (fun hc1 => ?_)
    · skip
      have hs : short S p n b := Or.inr (by simp only [sb_size] at hc1; omega)
      refine w_seq ?_
      refine w_reg ?_
      refine s_val rfl (v_mv lk0) pt26 ?_
      refine s_val rfl (v_nckp lk26) pt27 ?_
      refine s_val rfl (v_fap0 lk27) pt28 ?_
      refine s_eff rfl rfl (e_store lk28 (cvl lkb rfl) (hx_at hid) rfl (Nat.le_of_ble_eq_true rfl) rfl WRefB_sc2_1 (hx_set hid)) ptn ?_
      refine s_nil ?_
      refine n_seq ?_
      refine w_seq ?_
      refine w_reg ?_
      refine s_val rfl (v_mv lki) pt4 ?_
      refine s_nil ?_
      refine n_seq ?_
      refine w_rets ?_
      refine r_thn ?_
      refine w_ret (rs1 (rr_t gt4)) ?_
      refine ⟨_, _, rfl, hx_len hn, hx_lt hlt (by simp [Ent.lt, AV.lt, AV.ltL, *]), rfl, ?_, ?_⟩
      rw [tX, if_pos hs]
      rw [tP, tF, if_pos hs, decide_eq_true hs]
    · skip
      have hb : b = false := by simpa using hg12
      have hns : ¬ short S p n b := by unfold short; rw [hb]; simp only [sb_size] at hc1; simp; omega
      refine w_skip ?_
      refine n_seq ?_
      refine w_seq ?_
      refine w_reg ?_
      refine s_val rfl (v_mv lki) pt5 ?_
      refine s_val rfl (v_mv lki) pt6 ?_
      refine s_nil ?_
      refine n_seq ?_
      refine w_seq ?_
      refine w_seq ?_
      refine w_reg ?_
      refine s_val rfl (v_mv lki) pt7 ?_
      refine s_nil ?_
      refine n_seq ?_
      refine w_block ?_
      refine w_loopH (ι := Nat) (fun (k : Nat) => [(5, iv (nm ((S.drop p).take k))), (6, iv ((256 : Int) ^ k)), (7, iv (k : Int)), (29, .any), (30, .any), (31, .any), (32, .any), (33, .any), (34, .any), (35, .any), (36, .any), (37, .any), (38, .any), (39, .any), (40, .any), (41, .any), (42, .any), (43, .any), (44, .any), (45, .any), (46, .any), (47, .any), (48, .any), (49, .any), (50, .any), (51, .any), (52, .any), (53, .any), (54, .any), (55, .any), (56, .any)]) (fun (k : Nat) => h.set id (.mk v0 ty 3 [sb S, iv ((p + k : Nat) : Int), bv b]) ++ []) (fun (k : Nat) => k ≤ n) (fun (k : Nat) => n - k) (0) (by exact Nat.zero_le _) (by try simp only [setsT, setsE, List.set_cons_zero, List.set_cons_succ]; exact ALe.same (wk1 rfl (wk1 rfl (wk1 rfl (wk1 rfl (wk1 rfl (wk1 (by first | rfl | exact ivx (by omega) | (simp; done)) (wk1 (by first | rfl | exact ivx (by omega) | (simp; done)) (wk1 (by first | rfl | exact ivx (by omega) | (simp; done)) (wk1 rfl (wk1 rfl (wk1 rfl (wk1 rfl (wk1 rfl (wk1 rfl (wk1 rfl (wk1 rfl (wk1 rfl (wk1 rfl (wk1 rfl (wk1 rfl (wk1 rfl (wk1 rfl (wk1 rfl (wk1 rfl (wk1 rfl (wk1 rfl (wk1 rfl (wk1 rfl (wk1 rfl (wka (wka (wka (wka (wka (wka (wka (wka (wka (wka (wka (wka (wka (wka (wka (wka (wka (wka (wka (wka (wka (wka (wka (wka (wka (wka (wka (wka (wk1 rfl wk0)))))))))))))))))))))))))))))))))))))))))))))))))))))))))) rfl) ?_
      rintro k hi1
      try simp only [setsT, setsE, List.set_cons_zero, List.set_cons_succ]
      refine w_seq ?_
      refine w_seq ?_
      refine w_reg ?_
      refine s_val rfl (v_mv lk7) pt29 ?_
      refine s_val rfl (v_mv lk1) pt30 ?_
      refine s_val rfl (v_lss lk29 lk30) pt31 ?_
      refine s_nil ?_
      refine n_seq ?_
      first | refine w_cond lk31 (fun hc2 => ?_) (fun hc2 => ?_) | refine w_condB lk31 (fun hc2 => ?_) (fun hc2 => ?_)
      · skip
        have hk : k < n := by omega
        have hpk : p + k < S.length := by unfold short at hns; omega
        have hk4 : (256 : Int) ^ k ≤ 256 ^ 4 := by exact_mod_cast Nat.pow_le_pow_right (by omega) (by omega)
        have hk0 : (256 : Int) ^ 0 ≤ 256 ^ k := by exact_mod_cast Nat.pow_le_pow_right (by omega) (Nat.zero_le k)
        have hby := byte_bd' ⟨S.toArray⟩ ((p + k : Nat) : Int).toNat
        have hpr : 0 ≤ ((byteAt ⟨S.toArray⟩ ((p + k : Nat) : Int).toNat).toNat : Int) * 256 ^ k ∧ ((byteAt ⟨S.toArray⟩ ((p + k : Nat) : Int).toNat).toNat : Int) * 256 ^ k ≤ 255 * 256 ^ 4 := ⟨Int.mul_nonneg hby.1 (by omega), Int.mul_le_mul hby.2 hk4 (by omega) (by omega)⟩
        have hnb := nm_bd ((S.drop p).take k)
        have hnl : (256 : Int) ^ ((S.drop p).take k).length ≤ 256 ^ 4 := by exact_mod_cast Nat.pow_le_pow_right (by omega) (by rw [List.length_take]; omega)
        refine w_skip ?_
        refine n_seq ?_
        refine w_seq ?_
        refine w_block ?_
        refine w_seq ?_
        refine w_drwE ?_
        refine d_val rfl (v_mv lk5) pt34 ?_
        refine d_val rfl (v_mv lk0) pt35 ?_
        refine d_val rfl (v_nckp lk35) pt36 ?_
        refine d_val rfl (v_fap0 lk36) pt37 ?_
        refine d_val rfl (v_loadp lk37 (hx_at hid) gt0) pt38 ?_
        refine d_val rfl (v_mv lk0) pt39 ?_
        refine d_val rfl (v_nckp lk39) pt40 ?_
        refine d_val rfl (v_fap0 lk40) pt41 ?_
        refine d_val rfl (v_loadp lk41 (hx_at hid) gt1) pt42 ?_
        refine d_val rfl (v_ix lk38 lk42 (by (try simp only [sb_size]); omega) (by (try simp only [sb_size]); omega)) pt43 ?_
        refine d_val rfl (v_cvi64 lk43 (by omega) (by omega)) pt44 ?_
        refine d_val rfl (v_mv lk6) pt45 ?_
        refine d_val rfl (v_mul lk44 lk45 (by omega) (by omega)) pt46 ?_
        refine d_val rfl (v_add lk34 lk46 (by omega) (by omega)) pt47 ?_
        refine d_val rfl (v_mv lk47) pt5 ?_
        refine d_nil ?_
        refine e_nil ?_
        refine s_nil ?_
        refine n_seq ?_
        refine w_seq ?_
        refine w_reg ?_
        refine s_val rfl (v_mv lk6) pt48 ?_
        refine s_val rfl (v_mul lk48 lki (by omega) (by omega)) pt49 ?_
        refine s_val rfl (v_mv lk49) pt6 ?_
        refine s_nil ?_
        refine n_seq ?_
        refine w_reg ?_
        refine s_val rfl (v_mv lk0) pt50 ?_
        refine s_val rfl (v_nckp lk50) pt51 ?_
        refine s_val rfl (v_fap0 lk51) pt52 ?_
        refine s_val rfl (v_loadp lk52 (hx_at hid) gt1) pt53 ?_
        refine s_val rfl (v_add lk53 lki (by omega) (by omega)) pt54 ?_
        refine s_val rfl (v_nckp lk50) pt55 ?_
        refine s_val rfl (v_fap0 lk55) pt56 ?_
        refine s_eff rfl rfl (e_store lk56 (cvl lk54 rfl) (hx_at hid) rfl (Nat.le_of_ble_eq_true rfl) rfl WRefB_sc1_1 (hx_set hid)) ptn ?_
        refine s_nil ?_
        refine n_blk ?_
        refine n_seq ?_
        refine w_reg ?_
        refine s_val rfl (v_mv lk7) pt32 ?_
        refine s_val rfl (v_add lk32 lki (by omega) (by omega)) pt33 ?_
        refine s_val rfl (v_mv lk33) pt7 ?_
        refine s_nil ?_
        refine n_thn ?_
        refine LoopTo.mk (k + 1) (by omega) (by (try dsimp only); omega) (by (try dsimp only); (try simp only [setsT, setsE, List.set_cons_zero, List.set_cons_succ]); exact ALe.same (wk1 rfl (wk1 rfl (wk1 rfl (wk1 rfl (wk1 rfl (wk1 (by first | rfl | exact ivx (by omega) | exact ivx (Int.pow_succ _ _).symm | exact ivx (by rw [nm_take (S.drop p) k (by rw [List.length_drop]; omega), sb_at, Int.toNat_natCast, List.getD_eq_getElem?_getD, List.getElem?_eq_getElem hpk, List.getElem_drop]; rfl)) (wk1 (by first | rfl | exact ivx (by omega) | exact ivx (Int.pow_succ _ _).symm | exact ivx (by rw [nm_take (S.drop p) k (by rw [List.length_drop]; omega), sb_at, Int.toNat_natCast, List.getD_eq_getElem?_getD, List.getElem?_eq_getElem hpk, List.getElem_drop]; rfl)) (wk1 (by first | rfl | exact ivx (by omega) | exact ivx (Int.pow_succ _ _).symm | exact ivx (by rw [nm_take (S.drop p) k (by rw [List.length_drop]; omega), sb_at, Int.toNat_natCast, List.getD_eq_getElem?_getD, List.getElem?_eq_getElem hpk, List.getElem_drop]; rfl)) (wk1 rfl (wk1 rfl (wk1 rfl (wk1 rfl (wk1 rfl (wk1 rfl (wk1 rfl (wk1 rfl (wk1 rfl (wk1 rfl (wk1 rfl (wk1 rfl (wk1 rfl (wk1 rfl (wk1 rfl (wk1 rfl (wk1 rfl (wk1 rfl (wk1 rfl (wk1 rfl (wk1 rfl (wka (wka (wka (wka (wka (wka (wka (wka (wka (wka (wka (wka (wka (wka (wka (wka (wka (wka (wka (wka (wka (wka (wka (wka (wka (wka (wka (wka (wk1 rfl wk0)))))))))))))))))))))))))))))))))))))))))))))))))))))))))) (by rw [show (((p + k : Nat) : Int) + 1) = ((p + (k + 1) : Nat) : Int) by omega]))
      · skip
        refine w_exit ?_
        refine x_thn ?_
        refine x_thn ?_
        refine x_blk ?_
        refine n_seq ?_
        refine w_seq ?_
        refine w_reg ?_
        refine s_val rfl (v_mv lk5) pt57 ?_
        refine s_val rfl (v_mv lk57) pt4 ?_
        refine s_nil ?_
        refine n_seq ?_
        refine w_rets ?_
        refine w_ret (rs1 (rr_t gt4)) ?_
        have hkn : k = n := by omega
        refine ⟨_, _, rfl, hx_len hn, hx_lt hlt (by simp [Ent.lt, AV.lt, AV.ltL, *]), rfl, ?_, ?_⟩
        rw [tX, if_neg hns, hkn]
        rw [tP, tF, if_neg hns, decide_eq_false hns, hkn, hb]
theorem tX_bd {S : List UInt8} {p n : Nat} {b : Bool} : 0 ≤ tX S p n b ∧ tX S p n b < 256 ^ n := by
  unfold tX
  split
  · exact ⟨Int.le_refl _, by exact_mod_cast Nat.pow_pos (n := n) (show 0 < 256 by omega)⟩
  · have h := nm_bd ((S.drop p).take n)
    have h2 : ((S.drop p).take n).length ≤ n := by rw [List.length_take]; omega
    have : (256 : Int) ^ ((S.drop p).take n).length ≤ 256 ^ n := by exact_mod_cast Nat.pow_le_pow_right (by omega) h2
    omega
theorem t_le {S : List UInt8} {p n : Nat} {x : Int} {r : List UInt8} (h : S.drop p = le n x ++ r) (h0 : 0 ≤ x) (h1 : x < 256 ^ n) : tX S p n false = x ∧ tF S p n false = false ∧ tP S p n false = p + n ∧ S.drop (p + n) = r := by
  have hl : S.length - p = n + r.length := by rw [← List.length_drop, h, List.length_append, le_len]
  have hns : ¬ short S p n false := by unfold short; simp; omega
  refine ⟨?_, decide_eq_false hns, by rw [tP, if_neg hns], ?_⟩
  · rw [tX, if_neg hns, h, List.take_left' (le_len n x), nm_le n x h0 h1]
  · rw [← List.drop_drop, h, List.drop_left' (le_len n x)]
def A1 (S : List UInt8) (p : Nat) (b : Bool) : Int := tX S p 3 b
def P1n (S : List UInt8) (p : Nat) (b : Bool) : Nat := tP S p 3 b
def B1 (S : List UInt8) (p : Nat) (b : Bool) : Bool := tF S p 3 b
def A2 (S : List UInt8) (p : Nat) (b : Bool) : Int := tX S (P1n S p b) 2 (B1 S p b)
def P2n (S : List UInt8) (p : Nat) (b : Bool) : Nat := tP S (P1n S p b) 2 (B1 S p b)
def B2 (S : List UInt8) (p : Nat) (b : Bool) : Bool := tF S (P1n S p b) 2 (B1 S p b)
def A3 (S : List UInt8) (p : Nat) (b : Bool) : Int := tX S (P2n S p b) 1 (B2 S p b)
def P3n (S : List UInt8) (p : Nat) (b : Bool) : Nat := tP S (P2n S p b) 1 (B2 S p b)
def B3 (S : List UInt8) (p : Nat) (b : Bool) : Bool := tF S (P2n S p b) 1 (B2 S p b)
def lP (S : List UInt8) (p : Nat) (b : Bool) : Nat := P3n S p b + (A3 S p b).toNat
def lX (S : List UInt8) (p : Nat) (b : Bool) : Loc := (A1 S p b - 100000, A2 S p b, ⟨((S.take (lP S p b)).drop (P3n S p b)).toArray⟩)
theorem lX_ok (S : List UInt8) (p : Nat) (b : Bool) : (lX S p b).2.2.size ≤ maxLen := by
  have h3 : (A3 S p b) < 256 ^ 1 := tX_bd.2
  show ((S.take (lP S p b)).drop (P3n S p b)).length ≤ maxLen
  rw [List.length_drop, List.length_take]
  unfold lP maxLen
  omega
theorem loc_good {S : List UInt8} {p : Nat} {l : Loc} {r : List UInt8} (h : S.drop p = encL l ++ r) (hl : locE l = 0) : lX S p false = l ∧ B3 S p false = false ∧ S.drop (lP S p false) = r ∧ ¬ (S.length : Int) - (P3n S p false : Int) < A3 S p false := by
  obtain ⟨h1, h2, h3, h4, _⟩ := locE_ok hl
  have hsz : l.2.2.data.toList.length = l.2.2.size := by simp
  have e : encL l ++ r = le 3 (l.1 + 100000) ++ (le 2 l.2.1 ++ (le 1 (l.2.2.size : Int) ++ (l.2.2.data.toList ++ r))) := by simp [encL]
  rw [e] at h
  obtain ⟨a1, a2, a3, a4⟩ := t_le h (by omega) (by omega)
  obtain ⟨b1, b2, b3, b4⟩ := t_le a4 (by omega) (by omega)
  obtain ⟨c1, c2, c3, c4⟩ := t_le b4 (by omega) (by omega)
  have e1 : P1n S p false = p + 3 := a3
  have e2 : B1 S p false = false := a2
  have e3 : P2n S p false = p + 3 + 2 := by rw [P2n, e1, e2]; exact b3
  have e4 : B2 S p false = false := by rw [B2, e1, e2]; exact b2
  have e5 : A3 S p false = l.2.2.size := by rw [A3, e3, e4]; exact c1
  have e6 : P3n S p false = p + 3 + 2 + 1 := by rw [P3n, e3, e4]; exact c3
  have hd : S.length - (p + 3 + 2 + 1) = l.2.2.size + r.length := by rw [← List.length_drop, c4, List.length_append, hsz]
  have e7 : lP S p false = p + 3 + 2 + 1 + l.2.2.size := by rw [lP, e5, e6, Int.toNat_natCast]
  refine ⟨?_, by rw [B3, e3, e4]; exact c2, ?_, by rw [e5, e6]; omega⟩
  · have f1 : A1 S p false = l.1 + 100000 := a1
    have f2 : A2 S p false = l.2.1 := by rw [A2, e1, e2]; exact b1
    rw [lX, f1, f2, e7, e6, ← List.take_drop, c4, List.take_left' hsz]
    have : l.1 + 100000 - 100000 = l.1 := by omega
    rw [this]
  · rw [e7, ← List.drop_drop, c4, List.drop_left' hsz]
def Gd (S : List UInt8) (t : Tab) : Prop := checkT t = 0 ∧ enc t = S
def Rt (t : Tab) : List UInt8 := le 2 0 ++ (le 2 t.2.length ++ (t.2.zip (kindI t)).flatMap encC)
end Go.Proofs.Ytmbebimingkfeaa
