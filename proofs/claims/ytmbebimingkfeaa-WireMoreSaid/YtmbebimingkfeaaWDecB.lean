/-
  Contracts on plain data: the pieces that wire.Decode does often. Conditions: those that each theorem names.
-/
import Derived.Test.YtmbebimingkfeaaWDecA
set_option linter.unusedVariables false
set_option linter.unusedSimpArgs false
set_option maxRecDepth 100000
namespace Go.Proofs.Ytmbebimingkfeaa
open Go.Ab Civ
section
theorem WDecB_Decode1_4 {τ : Operand → AV} {y0 : Operand} {x0_0 : AV} (h0 : cellsV (τ y0) = some [x0_0]) (l0 : [x0_0].all leaf = true) : fillAV τ [(0, 1, y0)] [(.v (.int .i64 0)), (.v (.int .i64 0)), (.v (.string ⟨#[]⟩))] = some [x0_0, (.v (.int .i64 0)), (.v (.string ⟨#[]⟩))] := by
  simp only [fillAV, h0, l0]
  rfl
theorem WDecB_sc0_3 {a0 a1 a2 c0 c1 c2 : AV} {l : List AV} : setCells (a0 :: a1 :: a2 :: l) 0 [c0, c1, c2] = c0 :: c1 :: c2 :: l := rfl
theorem WDecB_sc1_1 {a0 a1 c0 : AV} {l : List AV} : setCells (a0 :: a1 :: l) 1 [c0] = a0 :: c0 :: l := rfl
theorem WDecB_sc2_1 {a0 a1 a2 c0 : AV} {l : List AV} : setCells (a0 :: a1 :: a2 :: l) 2 [c0] = a0 :: a1 :: c0 :: l := rfl
theorem WDecB_tk0_3 {a0 a1 a2 : AV} {l : List AV} : ((a0 :: a1 :: a2 :: l).drop 0).take 3 = [a0, a1, a2] := rfl
theorem WDecB_Decode1_25 {τ : Operand → AV} {y0 : Operand} {x0_0 x0_1 x0_2 : AV} (h0 : cellsV (τ y0) = some [x0_0, x0_1, x0_2]) (l0 : [x0_0, x0_1, x0_2].all leaf = true) : fillAV τ [(0, 3, y0)] [(.v (.int .i64 0)), (.v (.int .i64 0)), (.v (.string ⟨#[]⟩))] = some [x0_0, x0_1, x0_2] := by
  simp only [fillAV, h0, l0]
  rfl
theorem WDecB_lap0 { e : Ent} : ([] : AH) ++ [e] = [e] := rfl
theorem WDecB_lj1_1 {e0 d0 : Ent} : ([e0] : AH) ++ [d0] = [e0, d0] := rfl
theorem WDecB_tk_3 {a0 a1 a2 : AV} {l : List AV} : (a0 :: a1 :: a2 :: l).take 3 = [a0, a1, a2] := rfl
theorem WDecB_Decode2_10 {τ : Operand → AV} {y0 y1 : Operand} {x0_0 x1_0 x1_1 x1_2 : AV} (h0 : cellsV (τ y0) = some [x0_0]) (l0 : [x0_0].all leaf = true) (h1 : cellsV (τ y1) = some [x1_0, x1_1, x1_2]) (l1 : [x1_0, x1_1, x1_2].all leaf = true) : fillAV τ [(0, 1, y0), (1, 3, y1)] [(.v (.int .i64 0)), (.v (.int .i64 0)), (.v (.int .i64 0)), (.v (.string ⟨#[]⟩))] = some [x0_0, x1_0, x1_1, x1_2] := by
  simp only [fillAV, h0, l0, h1, l1]
  rfl
theorem WDecB_Decode2_11 {τ : Operand → AV} {y0 : Operand} {x0_0 x0_1 x0_2 x0_3 : AV} (h0 : cellsV (τ y0) = some [x0_0, x0_1, x0_2, x0_3]) (l0 : [x0_0, x0_1, x0_2, x0_3].all leaf = true) : fillAV τ [(0, 4, y0)] [(.v (.int .i64 0)), (.v (.int .i64 0)), (.v (.int .i64 0)), (.v (.string ⟨#[]⟩))] = some [x0_0, x0_1, x0_2, x0_3] := by
  simp only [fillAV, h0, l0]
  rfl
theorem WDecB_tk_4 {a0 a1 a2 a3 : AV} {l : List AV} : (a0 :: a1 :: a2 :: a3 :: l).take 4 = [a0, a1, a2, a3] := rfl
theorem WDecB_sc3_1 {a0 a1 a2 a3 c0 : AV} {l : List AV} : setCells (a0 :: a1 :: a2 :: a3 :: l) 3 [c0] = a0 :: a1 :: a2 :: c0 :: l := rfl
end
/-- wire.Decode$1 -/
def c43 : AC := (.seq (.reg [⟨(some 3), none, (.load false 1 (.tmp 0))⟩, ⟨(some 4), none, (.call (.func 42) [(.tmp 3), (.const (.int .i64 3))])⟩, ⟨(some 5), none, (.bin .sub (.tmp 4) (.const (.int .i64 100000)))⟩, ⟨(some 6), none, (.build [(.v (.int .i64 0)), (.v (.int .i64 0)), (.v (.string ⟨#[]⟩))] [(0, (1, (.tmp 5)))])⟩, ⟨(some 1), none, (.new 23 3 [(.v (.int .i64 0)), (.v (.int .i64 0)), (.v (.string ⟨#[]⟩))])⟩, ⟨none, none, (.store 3 (.tmp 1) (.tmp 6))⟩]) (.seq (.reg [⟨(some 7), none, (.load false 1 (.tmp 0))⟩, ⟨(some 8), none, (.call (.func 42) [(.tmp 7), (.const (.int .i64 2))])⟩, ⟨(some 9), none, (.fa 1 (.tmp 1))⟩, ⟨none, none, (.store 1 (.tmp 9) (.tmp 8))⟩]) (.seq (.reg [⟨(some 10), none, (.load false 1 (.tmp 0))⟩, ⟨(some 11), none, (.call (.func 42) [(.tmp 10), (.const (.int .i64 1))])⟩, ⟨(some 2), none, (.mv (.tmp 11))⟩]) (.seq (.reg [⟨(some 12), none, (.load false 1 (.tmp 0))⟩, ⟨(some 13), none, (.mv (.tmp 2))⟩, ⟨(some 14), none, (.call (.func 44) [(.tmp 12), (.tmp 13)])⟩, ⟨(some 15), none, (.fa 2 (.tmp 1))⟩, ⟨none, none, (.store 1 (.tmp 15) (.tmp 14))⟩]) (.drw [⟨(some 16), none, (.loadR false 1 (.tmp 0))⟩, ⟨(some 17), none, (.load false 1 (.tmp 0))⟩, ⟨(some 18), none, (.nck (.tmp 17))⟩, ⟨(some 19), none, (.fa 2 (.tmp 18))⟩, ⟨(some 20), none, (.load false 1 (.tmp 19))⟩, ⟨(some 21), none, (.load true 3 (.tmp 1))⟩, ⟨(some 22), none, (.lit 23 3 1 [(.v (.int .i64 0)), (.v (.int .i64 0)), (.v (.string ⟨#[]⟩))] [(0, (3, (.tmp 21)))])⟩] [true, false, false, false] [⟨(some 23), none, (.app 23 3 32 (.tmp 20) (.tmp 22))⟩, ⟨(some 24), none, (.nck (.tmp 16))⟩, ⟨(some 25), none, (.fa 2 (.tmp 24))⟩, ⟨none, none, (.store 1 (.tmp 25) (.tmp 23))⟩])))))
theorem k43 : compF Try.prog 43 = some ⟨c43, [], 26⟩ := by kernel_rfl
theorem i43 {a0 : AV} {h : AH} {R : AE → Prop} (hw : ∀ n, h.length = n → (∀ e ∈ h, e.lt n = true) → AV.ltL n [a0] = true → AV.bdL [a0] → aw Try.prog n c43 (retA [] fun x h' => ∃ z, h' = h ++ z ∧ x.lt n = true ∧ R x) [a0, .any, .any, .any, .any, .any, .any, .any, .any, .any, .any, .any, .any, .any, .any, .any, .any, .any, .any, .any, .any, .any, .any, .any, .any, .any] (h ++ [])) : ACalls Try.prog 43 [a0] h fun x h' => h' = h ∧ R x := ACalls.into k43 rfl hw
theorem w43 {a0 : AV} {h : AH} {res : AV} (hw : ∀ n, h.length = n → (∀ e ∈ h, e.lt n = true) → AV.ltL n [a0] = true → AV.bdL [a0] → aw Try.prog n c43 (retA [] fun x h' => ∃ z, h' = h ++ z ∧ x.lt n = true ∧ ∃ c, x = .ret c ∧ Wk c res) [a0, .any, .any, .any, .any, .any, .any, .any, .any, .any, .any, .any, .any, .any, .any, .any, .any, .any, .any, .any, .any, .any, .any, .any, .any, .any] (h ++ [])) : ACalls Try.prog 43 [a0] h fun x h' => h' = h ∧ x = .ret res := ACalls.weak (ACalls.into k43 rfl hw)
theorem n43 {a0 : AV} {h : AH} {R : AE → AH → Prop} (hw : ∀ n, h.length = n → (∀ e ∈ h, e.lt n = true) → AV.ltL n [a0] = true → AV.bdL [a0] → aw Try.prog n c43 (retA [] R) [a0, .any, .any, .any, .any, .any, .any, .any, .any, .any, .any, .any, .any, .any, .any, .any, .any, .any, .any, .any, .any, .any, .any, .any, .any, .any] (h ++ [])) : ACalls Try.prog 43 [a0] h R := ACalls.intoN k43 rfl hw
theorem j43 {a0 : AV} {h : AH} {R : AE → AH → Prop} (hw : ∀ n, h.length = n → (∀ e ∈ h, e.lt n = true) → AV.ltL n [a0] = true → AV.bdL [a0] → aw Try.prog n c43 (retA [] fun x h' => ∃ y z, h' = y ++ z ∧ y.length = n ∧ (∀ e ∈ y, e.lt n = true) ∧ x.lt n = true ∧ R x y) [a0, .any, .any, .any, .any, .any, .any, .any, .any, .any, .any, .any, .any, .any, .any, .any, .any, .any, .any, .any, .any, .any, .any, .any, .any, .any] (h ++ [])) : ACalls Try.prog 43 [a0] h R := ACalls.intoG k43 rfl hw
/-- wire.Decode$2 -/
def c46 : AC := (.seq (.reg [⟨(some 3), none, (.load false 1 (.tmp 0))⟩, ⟨(some 4), none, (.call (.func 42) [(.tmp 3), (.const (.int .i64 5))])⟩, ⟨(some 5), none, (.bin .sub (.tmp 4) (.const (.int .i64 274877906944)))⟩, ⟨(some 2), none, (.mv (.tmp 5))⟩]) (.drw [⟨(some 6), none, (.fa 3 (.tmp 1))⟩, ⟨(some 7), none, (.loadR false 1 (.tmp 6))⟩, ⟨(some 8), none, (.mv (.tmp 2))⟩, ⟨(some 9), none, (.load false 1 (.tmp 0))⟩] [true, true, true, false, false, false] [⟨(some 10), none, (.call (.func 45) [(.tmp 9)])⟩, ⟨(some 11), none, (.build [(.v (.int .i64 0)), (.v (.int .i64 0)), (.v (.int .i64 0)), (.v (.string ⟨#[]⟩))] [(0, (1, (.tmp 8))), (1, (3, (.tmp 10)))])⟩, ⟨(some 12), none, (.lit 46 4 1 [(.v (.int .i64 0)), (.v (.int .i64 0)), (.v (.int .i64 0)), (.v (.string ⟨#[]⟩))] [(0, (4, (.tmp 11)))])⟩, ⟨(some 13), none, (.app 46 4 40 (.tmp 7) (.tmp 12))⟩, ⟨(some 14), none, (.fa 3 (.tmp 1))⟩, ⟨none, none, (.store 1 (.tmp 14) (.tmp 13))⟩]))
theorem k46 : compF Try.prog 46 = some ⟨c46, [], 15⟩ := by kernel_rfl
theorem i46 {a0 a1 : AV} {h : AH} {R : AE → Prop} (hw : ∀ n, h.length = n → (∀ e ∈ h, e.lt n = true) → AV.ltL n [a0, a1] = true → AV.bdL [a0, a1] → aw Try.prog n c46 (retA [] fun x h' => ∃ z, h' = h ++ z ∧ x.lt n = true ∧ R x) [a0, a1, .any, .any, .any, .any, .any, .any, .any, .any, .any, .any, .any, .any, .any] (h ++ [])) : ACalls Try.prog 46 [a0, a1] h fun x h' => h' = h ∧ R x := ACalls.into k46 rfl hw
theorem w46 {a0 a1 : AV} {h : AH} {res : AV} (hw : ∀ n, h.length = n → (∀ e ∈ h, e.lt n = true) → AV.ltL n [a0, a1] = true → AV.bdL [a0, a1] → aw Try.prog n c46 (retA [] fun x h' => ∃ z, h' = h ++ z ∧ x.lt n = true ∧ ∃ c, x = .ret c ∧ Wk c res) [a0, a1, .any, .any, .any, .any, .any, .any, .any, .any, .any, .any, .any, .any, .any] (h ++ [])) : ACalls Try.prog 46 [a0, a1] h fun x h' => h' = h ∧ x = .ret res := ACalls.weak (ACalls.into k46 rfl hw)
theorem n46 {a0 a1 : AV} {h : AH} {R : AE → AH → Prop} (hw : ∀ n, h.length = n → (∀ e ∈ h, e.lt n = true) → AV.ltL n [a0, a1] = true → AV.bdL [a0, a1] → aw Try.prog n c46 (retA [] R) [a0, a1, .any, .any, .any, .any, .any, .any, .any, .any, .any, .any, .any, .any, .any] (h ++ [])) : ACalls Try.prog 46 [a0, a1] h R := ACalls.intoN k46 rfl hw
theorem j46 {a0 a1 : AV} {h : AH} {R : AE → AH → Prop} (hw : ∀ n, h.length = n → (∀ e ∈ h, e.lt n = true) → AV.ltL n [a0, a1] = true → AV.bdL [a0, a1] → aw Try.prog n c46 (retA [] fun x h' => ∃ y z, h' = y ++ z ∧ y.length = n ∧ (∀ e ∈ y, e.lt n = true) ∧ x.lt n = true ∧ R x y) [a0, a1, .any, .any, .any, .any, .any, .any, .any, .any, .any, .any, .any, .any, .any] (h ++ [])) : ACalls Try.prog 46 [a0, a1] h R := ACalls.intoG k46 rfl hw
def s1 (S : List UInt8) : List UInt8 := tkS 3 S
def s2 (S : List UInt8) : List UInt8 := tkS 2 (s1 S)
def s3 (S : List UInt8) : List UInt8 := tkS 1 (s2 S)
def nl (S : List UInt8) : Nat := (nm (tkR 1 (s2 S))).toNat
def d1L (S : List UInt8) : Loc := (nm (tkR 3 S) - 100000, nm (tkR 2 (s1 S)), ⟨(tkR (nl S) (s3 S)).toArray⟩)
def d1S (S : List UInt8) : List UInt8 := tkS (nl S) (s3 S)
def d1B (S : List UInt8) (sh : Bool) : Bool := tkB (nl S) (s3 S) (tkB 1 (s2 S) (tkB 2 (s1 S) (tkB 3 S sh)))
theorem d1_a {S : List UInt8} {sh : Bool} {K : List Loc} {id ik v v0 ty : Nat} {h : AH} (h1 : h[id]? = some (.mk v0 ty 3 [sb S, bv sh, .own ik v K.length])) (h2 : h[ik]? = some (.mk v 23 3 (rows locC K))) (hne : id ≠ ik) (hK : K.length ≤ 1000000000) :
    ACalls Try.prog 43 [.rp [.ptr id v0 0]] h fun r h' => r = .ret (.tup []) ∧ h' = (h.set id (.mk v0 ty 3 [sb (d1S S), bv (d1B S sh), .own ik (v + 1) (K ++ [d1L S]).length])).set ik (.mk (v + 1) 23 3 (rows locC (K ++ [d1L S]))) := by
  have hid : id < h.length := (List.getElem?_eq_some_iff.1 h1).1
  have hik : ik < h.length := (List.getElem?_eq_some_iff.1 h2).1
  have hb3 := nmR_bd (n := 3) (by omega) S
  have hb1 := nmR_bd (n := 1) (by omega) (s2 S)
  refine j43 ?_
  intro N hn hlt hlA hbd
  try simp only [AV.bdL, AV.bd, and_true, true_and] at hbd
  have hik' : ik < N := by omega
  refine aw_heap (h1 := (h.set id (.mk v0 ty 3 [sb S, bv sh, .own ik v K.length])).set ik (.mk v 23 3 (rows locC K)) ++ []) (by rw [hx2_self h1 h2]) ?_
  refine w_seq ?_
  refine w_reg ?_
  refine s_val rfl (v_loadr lk0 gt0) pt3 ?_
  refine s_calls (mp1 lk3 (mp1 lki mp0)) (number_a (n := 3) (hx2_at1 hne hid) (by simp [AV.lt, (hx2_len hn)]; omega) (by omega)) (hx2_set1 hne hid) pt4 ?_
  refine s_val rfl (v_sub lk4 lki (by omega) (by omega)) pt5 ?_
  refine s_val rfl (v_build (WDecB_Decode1_4 (cvl lk5 rfl) rfl)) pt6 ?_
  refine s_eff rfl rfl (e_new (hl0 (hx2_len hn)) ha0) pt1 ?_
  refine s_eff rfl rfl (e_store lk1 (cvl lk6 rfl) (hga (hx2_len hn) rfl) rfl (Nat.le_of_ble_eq_true rfl) rfl WDecB_sc0_3 (hs0 (hx2_len hn))) ptn ?_
  refine s_nil ?_
  refine n_seq ?_
  refine w_seq ?_
  refine w_reg ?_
  refine s_val rfl (v_loadr lk0 gt0) pt7 ?_
  refine s_calls (mp1 lk7 (mp1 lki mp0)) (number_a (n := 2) (hx2_at1 hne hid) (by simp [AV.lt, (hx2_len hn)]; omega) (by omega)) (hx2_set1 hne hid) pt8 ?_
  refine s_val rfl (v_fap0 lk1) pt9 ?_
  refine s_eff rfl rfl (e_store lk9 (cvl lk8 rfl) (hga (hx2_len hn) rfl) rfl (Nat.le_of_ble_eq_true rfl) rfl WDecB_sc1_1 (hs0 (hx2_len hn))) ptn ?_
  refine s_nil ?_
  refine n_seq ?_
  refine w_seq ?_
  refine w_reg ?_
  refine s_val rfl (v_loadr lk0 gt0) pt10 ?_
  refine s_calls (mp1 lk10 (mp1 lki mp0)) (number_a (n := 1) (hx2_at1 hne hid) (by simp [AV.lt, (hx2_len hn)]; omega) (by omega)) (hx2_set1 hne hid) pt11 ?_
  refine s_val rfl (v_mv lk11) pt2 ?_
  refine s_nil ?_
  refine n_seq ?_
  refine w_seq ?_
  refine w_reg ?_
  refine s_val rfl (v_loadr lk0 gt0) pt12 ?_
  refine s_val rfl (v_mv lk2) pt13 ?_
  refine s_calls (mp1 lk12 (mp1 lk13 mp0)) (take_a' (n := nl S) (by have := hb1.1; simp only [nl, s2, s1] at *; omega) (hx2_at1 hne hid) (by simp [AV.lt, (hx2_len hn)]; omega)) (hx2_set1 hne hid) pt14 ?_
  refine s_val rfl (v_fap0 lk1) pt15 ?_
  refine s_eff rfl rfl (e_store lk15 (cvl lk14 rfl) (hga (hx2_len hn) rfl) rfl (Nat.le_of_ble_eq_true rfl) rfl WDecB_sc2_1 (hs0 (hx2_len hn))) ptn ?_
  refine s_nil ?_
  refine n_seq ?_
  refine w_drwE ?_
  refine d_ldR lk0 rfl pt16 ?_
  refine d_val rfl (v_loadr lk0 gt0) pt17 ?_
  refine d_val rfl (v_nckp lk17) pt18 ?_
  refine d_val rfl (v_fap0 lk18) pt19 ?_
  refine d_val rfl (v_loadp lk19 (hx2_at1 hne hid) gt2) pt20 ?_
  refine d_val rfl (v_loadpA lk1 (hga (hx2_len hn) rfl) WDecB_tk0_3 rfl) pt21 ?_
  refine d_eff rfl rfl (hlk (hx2_len hn) rfl) (l_lit (WDecB_Decode1_25 (cvl lk21 rfl) rfl)) pt22 WDecB_lap0 ?_
  refine d_nil ?_
  refine e_ent WDecB_lj1_1 ?_
  refine s_eff rfl rfl (e_app (sc_own lk22 (hga (hx2_len hn) rfl) rfl WDecB_tk_3 (Nat.le_of_ble_eq_true rfl)) lk20 (hx2_at2 hik) (loc_len _) (by omega) rfl (hx2_set2 hik)) pt23 ?_
  refine s_val rfl (v_nckp lk16) pt24 ?_
  refine s_val rfl (v_fap0 lk24) pt25 ?_
  refine s_eff rfl rfl (e_store lk25 (cvl lk23 rfl) (hx2_at1 hne hid) rfl (Nat.le_of_ble_eq_true rfl) rfl WDecB_sc2_1 (hx2_set1 hne hid)) ptn ?_
  refine s_nil ?_
  refine w_end (rs0) ?_
  refine ⟨_, _, rfl, hx2_len hn, hx2_lt hlt (by simp [Ent.lt, AV.lt, AV.ltL, *]) (by simp [Ent.lt, AV.lt, AV.ltL, loc_lt, ltL_app]), rfl, rfl, ?_⟩
  rw [rows_app, rows_one, List.length_append]
  rfl
theorem hx3_at1 {h E : AH} {i j k : Nat} {a b c : Ent} (hij : i ≠ j) (hik : i ≠ k) (hi : i < h.length) : (((h.set i a).set j b).set k c ++ E)[i]? = some a := by
  rw [List.getElem?_append_left (by simpa using hi), List.getElem?_set_ne (Ne.symm hik), List.getElem?_set_ne (Ne.symm hij), List.getElem?_set_self hi]
theorem hx3_at2 {h E : AH} {i j k : Nat} {a b c : Ent} (hjk : j ≠ k) (hj : j < h.length) : (((h.set i a).set j b).set k c ++ E)[j]? = some b := by
  rw [List.getElem?_append_left (by simpa using hj), List.getElem?_set_ne (Ne.symm hjk), List.getElem?_set_self (by simpa using hj)]
theorem hx3_at3 {h E : AH} {i j k : Nat} {a b c : Ent} (hk : k < h.length) : (((h.set i a).set j b).set k c ++ E)[k]? = some c := by
  rw [List.getElem?_append_left (by simpa using hk), List.getElem?_set_self (by simpa using hk)]
theorem hx3_set1 {h E : AH} {i j k : Nat} {a b c a' : Ent} (hij : i ≠ j) (hik : i ≠ k) (hi : i < h.length) : (((h.set i a).set j b).set k c ++ E).set i a' = ((h.set i a').set j b).set k c ++ E := by
  rw [List.set_append_left _ _ (by simpa using hi), List.set_comm _ _ (Ne.symm hik), List.set_comm _ _ (Ne.symm hij), List.set_set]
theorem hx3_set2 {h E : AH} {i j k : Nat} {a b c b' : Ent} (hjk : j ≠ k) (hj : j < h.length) : (((h.set i a).set j b).set k c ++ E).set j b' = ((h.set i a).set j b').set k c ++ E := by
  rw [List.set_append_left _ _ (by simpa using hj), List.set_comm _ _ (Ne.symm hjk), List.set_set]
theorem hx3_set3 {h E : AH} {i j k : Nat} {a b c c' : Ent} (hk : k < h.length) : (((h.set i a).set j b).set k c ++ E).set k c' = ((h.set i a).set j b).set k c' ++ E := by
  rw [List.set_append_left _ _ (by simpa using hk), List.set_set]
theorem hx3_len {h : AH} {i j k n : Nat} {a b c : Ent} (hn : h.length = n) : (((h.set i a).set j b).set k c).length = n := by simpa using hn
theorem hx3_lt {h : AH} {i j k n : Nat} {a b c : Ent} (hlt : ∀ x ∈ h, x.lt n = true) (ha : a.lt n = true) (hb : b.lt n = true) (hc : c.lt n = true) : ∀ x ∈ ((h.set i a).set j b).set k c, x.lt n = true := hx_lt (hx2_lt hlt ha hb) hc
def d2C (K : List Loc) (S : List UInt8) : Chg := (nm (tkR 5 S) - 274877906944, lcR K (tkS 5 S))
def d2S (S : List UInt8) : List UInt8 := tkS 2 (tkS 5 S)
def d2B (K : List Loc) (S : List UInt8) (sh : Bool) : Bool := lcB K (tkS 5 S) (tkB 5 S sh)
theorem d2_a {S : List UInt8} {sh : Bool} {K : List Loc} {C : List Chg} {x y : Int} {z : ByteArray} {id it ic v v0 v1 ty ty' : Nat} {h : AH} (h1 : h[id]? = some (.mk v0 ty 3 [sb S, bv sh, .sl K.length 3 false (rows locC K)])) (h2 : h[it]? = some (.mk v1 ty' 4 [iv x, iv y, sv z, .own ic v C.length])) (h3 : h[ic]? = some (.mk v 46 4 (rows chgC C)))
    (n12 : id ≠ it) (n13 : id ≠ ic) (n23 : it ≠ ic) (hC : C.length ≤ 1000000000) :
    ACalls Try.prog 46 [.rp [.ptr id v0 0], .ptr it v1 0] h fun r h' => r = .ret (.tup []) ∧ h' = ((h.set id (.mk v0 ty 3 [sb (d2S S), bv (d2B K S sh), .sl K.length 3 false (rows locC K)])).set it (.mk v1 ty' 4 [iv x, iv y, sv z, .own ic (v + 1) (C ++ [d2C K S]).length])).set ic (.mk (v + 1) 46 4 (rows chgC (C ++ [d2C K S]))) := by
  have i1 : id < h.length := (List.getElem?_eq_some_iff.1 h1).1
  have i2 : it < h.length := (List.getElem?_eq_some_iff.1 h2).1
  have i3 : ic < h.length := (List.getElem?_eq_some_iff.1 h3).1
  have hb5 := nmR_bd (n := 5) (by omega) S
  refine j46 ?_
  intro N hn hlt hlA hbd
  try simp only [AV.bdL, AV.bd, and_true, true_and] at hbd
  have i3' : ic < N := by omega
  refine aw_heap (h1 := ((h.set id (.mk v0 ty 3 [sb S, bv sh, .sl K.length 3 false (rows locC K)])).set it (.mk v1 ty' 4 [iv x, iv y, sv z, .own ic v C.length])).set ic (.mk v 46 4 (rows chgC C)) ++ []) (by rw [hx_self h1, hx_self h2, hx_self h3]) ?_
  refine w_seq ?_
  refine w_reg ?_
  refine s_val rfl (v_loadr lk0 gt0) pt3 ?_
  refine s_calls (mp1 lk3 (mp1 lki mp0)) (number_a (n := 5) (hx3_at1 n12 n13 i1) (by simp [AV.lt, loc_lt]) (by omega)) (hx3_set1 n12 n13 i1) pt4 ?_
  refine s_val rfl (v_sub lk4 lki (by omega) (by omega)) pt5 ?_
  refine s_val rfl (v_mv lk5) pt2 ?_
  refine s_nil ?_
  refine n_seq ?_
  refine w_drwR [it] ?_
  refine d_val rfl (v_fap0 lk1) pt6 ?_
  refine d_ldP lk6 (hx3_at2 n23 i2) (ld0 gt3) (by simp) pt7 ?_
  refine d_val rfl (v_mv lk2) pt8 ?_
  refine d_val rfl (v_loadr lk0 gt0) pt9 ?_
  refine d_nil ?_
  refine k_e_nil ?_
  refine k_calls (mp1 lk9 mp0) (rlocal_a (K := K) (hx3_at1 n12 n13 i1)) (hx3_set1 n12 n13 i1) (by intro i hi; simp only [cond_true, List.mem_cons, List.not_mem_nil, or_false] at hi; subst hi; exact (hx3_at2 n23 i2).trans (hx3_at2 n23 i2).symm) pt10 ?_
  refine k_val rfl (v_build (WDecB_Decode2_10 (cvl lk8 rfl) rfl (cvl lk10 rfl) rfl)) pt11 ?_
  refine k_eff rfl rfl (e_lit (WDecB_Decode2_11 (cvl lk11 rfl) rfl) (hl0 (hx3_len hn)) ha0) (by intro i hi; simp only [cond_true, List.mem_cons, List.not_mem_nil, or_false] at hi; subst hi; exact (hx3_at2 n23 i2).trans (hx3_at2 n23 i2).symm) pt12 ?_
  refine k_eff rfl rfl (e_app (sc_own lk12 (hga (hx3_len hn) rfl) rfl WDecB_tk_4 (Nat.le_of_ble_eq_true rfl)) lk7 (hx3_at3 i3) (chg_len _) (by omega) rfl (hx3_set3 i3)) (by intro i hi; simp at hi) pt13 ?_
  refine k_val rfl (v_fap0 lk1) pt14 ?_
  refine k_eff rfl rfl (e_store lk14 (cvl lk13 rfl) (hx3_at2 n23 i2) rfl (Nat.le_of_ble_eq_true rfl) rfl WDecB_sc3_1 (hx3_set2 n23 i2)) (by intro i hi; simp at hi) ptn ?_
  refine k_nil ?_
  refine w_end (rs0) ?_
  refine ⟨_, _, rfl, hx3_len hn, hx3_lt hlt (by simp [Ent.lt, AV.lt, AV.ltL, loc_lt]) (by simp [Ent.lt, AV.lt, AV.ltL, *]) (by simp [Ent.lt, AV.lt, AV.ltL, chg_lt, ltL_app]), rfl, rfl, ?_⟩
  rw [rows_app, rows_one, List.length_append]
  rfl
end Go.Proofs.Ytmbebimingkfeaa
