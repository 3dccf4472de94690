/-
  Contract on plain data: lines are joined. Condition: no field is longer than a text may be.
-/
import Derived.Test.YtgjchdhdopgkkaaDoorLineD
set_option linter.unusedVariables false
set_option linter.unusedSimpArgs false
set_option maxRecDepth 100000
namespace Go.Proofs.YtgjchdhdopgkkaaDoor
open Go.Ab Go.RowKit
section
theorem LineE_tk_3 {a0 a1 a2 : AV} {l : List AV} : (a0 :: a1 :: a2 :: l).take 3 = [a0, a1, a2] := rfl
theorem LineE_sc0_3 {a0 a1 a2 c0 c1 c2 : AV} {l : List AV} : setCells (a0 :: a1 :: a2 :: l) 0 [c0, c1, c2] = c0 :: c1 :: c2 :: l := rfl
theorem LineE_tk0_3 {a0 a1 a2 : AV} {l : List AV} : ((a0 :: a1 :: a2 :: l).drop 0).take 3 = [a0, a1, a2] := rfl
end
/-- line.Join -/
def c11 : AC := (.seq (.reg [⟨(some 2), none, (.mv (.const (.string ⟨#[]⟩)))⟩, ⟨(some 3), none, (.mv (.const (.int .i64 0)))⟩]) (.seq (.seq (.reg [⟨(some 10), none, (.mv (.tmp 0))⟩, ⟨(some 11), none, (.len false (.tmp 10))⟩, ⟨(some 12), none, (.bin .gtr (.tmp 11) (.const (.int .i64 200)))⟩]) (.cond (.tmp 12) (.seq (.reg [⟨(some 2), none, (.mv (.const (.string ⟨#[]⟩)))⟩, ⟨(some 3), none, (.mv (.const (.int .i64 2)))⟩]) .ret) .skip)) (.seq (.reg [⟨(some 4), none, (.new 44 2 [(.v (.pointer none)), (.sl 0 0 true [])])⟩]) (.seq (.seq (.reg [⟨(some 13), none, (.mv (.tmp 0))⟩, ⟨(some 14), none, (.len false (.tmp 13))⟩, ⟨(some 15), none, (.mv (.const (.int .i64 0)))⟩]) (.block 0 (.loop (.seq (.reg [⟨(some 16), none, (.bin .lss (.tmp 15) (.tmp 14))⟩]) (.seq (.cond (.tmp 16) .skip (.exit 0)) (.seq (.block 1 (.seq (.reg [⟨(some 17), none, (.ia 3 (.tmp 13) (.tmp 15))⟩, ⟨(some 18), none, (.load true 3 (.tmp 17))⟩, ⟨(some 6), none, (.new 29 3 [(.v (.int .i64 0)), (.v (.bool false)), (.sl 0 0 true [])])⟩, ⟨none, none, (.store 3 (.tmp 6) (.tmp 18))⟩]) (.seq (.seq (.reg [⟨(some 19), none, (.load true 3 (.tmp 6))⟩, ⟨(some 20), none, (.call (.func 18) [(.tmp 19)])⟩, ⟨(some 7), none, (.mv (.tmp 20))⟩]) (.seq (.reg [⟨(some 21), none, (.mv (.tmp 7))⟩, ⟨(some 22), none, (.bin .neq (.tmp 21) (.const (.int .i64 0)))⟩]) (.cond (.tmp 22) (.seq (.reg [⟨(some 23), none, (.mv (.tmp 7))⟩, ⟨(some 2), none, (.mv (.const (.string ⟨#[]⟩)))⟩, ⟨(some 3), none, (.mv (.tmp 23))⟩]) .ret) .skip))) (.seq (.seq (.reg [⟨(some 24), none, (.fa 1 (.tmp 6))⟩, ⟨(some 25), none, (.load false 1 (.tmp 24))⟩]) (.cond (.tmp 25) (.reg [⟨(some 26), none, (.call (.func 19) [(.tmp 4), (.const (.string ⟨#[32]⟩))])⟩]) .skip)) (.seq (.reg [⟨(some 27), none, (.fa 2 (.tmp 6))⟩, ⟨(some 28), none, (.load false 1 (.tmp 27))⟩, ⟨(some 29), none, (.call (.func 20) [(.tmp 28)])⟩, ⟨(some 8), none, (.mv (.tmp 29))⟩]) (.seq (.seq (.reg [⟨(some 30), none, (.mv (.tmp 8))⟩, ⟨(some 31), none, (.len false (.tmp 30))⟩, ⟨(some 32), none, (.mv (.const (.int .i64 0)))⟩]) (.block 2 (.loop (.seq (.reg [⟨(some 33), none, (.bin .lss (.tmp 32) (.tmp 31))⟩]) (.seq (.cond (.tmp 33) .skip (.exit 2)) (.seq (.block 3 (.seq (.reg [⟨(some 34), none, (.mv (.tmp 32))⟩, ⟨(some 9), none, (.mv (.tmp 34))⟩]) (.reg [⟨(some 35), none, (.mv (.tmp 8))⟩, ⟨(some 36), none, (.mv (.tmp 9))⟩, ⟨(some 37), none, (.mv (.tmp 8))⟩, ⟨(some 38), none, (.mv (.tmp 9))⟩, ⟨(some 39), none, (.ia 1 (.tmp 37) (.tmp 38))⟩, ⟨(some 40), none, (.load false 1 (.tmp 39))⟩, ⟨(some 41), none, (.call (.func 21) [(.tmp 40)])⟩, ⟨(some 42), none, (.ia 1 (.tmp 35) (.tmp 36))⟩, ⟨none, none, (.store 1 (.tmp 42) (.tmp 41))⟩]))) (.reg [⟨(some 43), none, (.bin .add (.tmp 32) (.const (.int .i64 1)))⟩, ⟨(some 32), none, (.mv (.tmp 43))⟩]))))))) (.reg [⟨(some 44), none, (.mv (.tmp 8))⟩, ⟨(some 45), none, (.call (.func 22) [(.tmp 44), (.const (.string ⟨#[32]⟩))])⟩, ⟨(some 46), none, (.bin .add (.tmp 45) (.const (.string ⟨#[10]⟩)))⟩, ⟨(some 47), none, (.call (.func 19) [(.tmp 4), (.tmp 46)])⟩]))))))) (.reg [⟨(some 48), none, (.bin .add (.tmp 15) (.const (.int .i64 1)))⟩, ⟨(some 15), none, (.mv (.tmp 48))⟩]))))))) (.seq (.seq (.reg [⟨(some 49), none, (.call (.func 23) [(.tmp 4)])⟩, ⟨(some 50), none, (.bin .gtr (.tmp 49) (.const (.int .i64 8000)))⟩]) (.cond (.tmp 50) (.seq (.reg [⟨(some 2), none, (.mv (.const (.string ⟨#[]⟩)))⟩, ⟨(some 3), none, (.mv (.const (.int .i64 2)))⟩]) .ret) .skip)) (.seq (.reg [⟨(some 51), none, (.call (.func 24) [(.tmp 4)])⟩, ⟨(some 2), none, (.mv (.tmp 51))⟩, ⟨(some 3), none, (.mv (.const (.int .i64 0)))⟩]) .ret))))))
theorem k11 : compF Tryd.prog 11 = some ⟨c11, [(.tmp 2), (.tmp 3)], 52⟩ := by kernel_rfl
theorem i11 {a0 : AV} {h : AH} {R : AE → Prop} (hw : ∀ n, h.length = n → (∀ e ∈ h, e.lt n = true) → AV.ltL n [a0] = true → AV.bdL [a0] → aw Tryd.prog n c11 (retA [(.tmp 2), (.tmp 3)] fun x h' => ∃ z, h' = h ++ z ∧ x.lt n = true ∧ R x) [a0, .any, .any, .any, .any, .any, .any, .any, .any, .any, .any, .any, .any, .any, .any, .any, .any, .any, .any, .any, .any, .any, .any, .any, .any, .any, .any, .any, .any, .any, .any, .any, .any, .any, .any, .any, .any, .any, .any, .any, .any, .any, .any, .any, .any, .any, .any, .any, .any, .any, .any, .any] (h ++ [])) : ACalls Tryd.prog 11 [a0] h fun x h' => h' = h ∧ R x := ACalls.into k11 rfl hw
theorem w11 {a0 : AV} {h : AH} {res : AV} (hw : ∀ n, h.length = n → (∀ e ∈ h, e.lt n = true) → AV.ltL n [a0] = true → AV.bdL [a0] → aw Tryd.prog n c11 (retA [(.tmp 2), (.tmp 3)] fun x h' => ∃ z, h' = h ++ z ∧ x.lt n = true ∧ ∃ c, x = .ret c ∧ Wk c res) [a0, .any, .any, .any, .any, .any, .any, .any, .any, .any, .any, .any, .any, .any, .any, .any, .any, .any, .any, .any, .any, .any, .any, .any, .any, .any, .any, .any, .any, .any, .any, .any, .any, .any, .any, .any, .any, .any, .any, .any, .any, .any, .any, .any, .any, .any, .any, .any, .any, .any, .any, .any] (h ++ [])) : ACalls Tryd.prog 11 [a0] h fun x h' => h' = h ∧ x = .ret res := ACalls.weak (ACalls.into k11 rfl hw)
theorem n11 {a0 : AV} {h : AH} {R : AE → AH → Prop} (hw : ∀ n, h.length = n → (∀ e ∈ h, e.lt n = true) → AV.ltL n [a0] = true → AV.bdL [a0] → aw Tryd.prog n c11 (retA [(.tmp 2), (.tmp 3)] R) [a0, .any, .any, .any, .any, .any, .any, .any, .any, .any, .any, .any, .any, .any, .any, .any, .any, .any, .any, .any, .any, .any, .any, .any, .any, .any, .any, .any, .any, .any, .any, .any, .any, .any, .any, .any, .any, .any, .any, .any, .any, .any, .any, .any, .any, .any, .any, .any, .any, .any, .any, .any] (h ++ [])) : ACalls Tryd.prog 11 [a0] h R := ACalls.intoN k11 rfl hw
theorem j11 {a0 : AV} {h : AH} {R : AE → AH → Prop} (hw : ∀ n, h.length = n → (∀ e ∈ h, e.lt n = true) → AV.ltL n [a0] = true → AV.bdL [a0] → aw Tryd.prog n c11 (retA [(.tmp 2), (.tmp 3)] fun x h' => ∃ y z, h' = y ++ z ∧ y.length = n ∧ (∀ e ∈ y, e.lt n = true) ∧ x.lt n = true ∧ R x y) [a0, .any, .any, .any, .any, .any, .any, .any, .any, .any, .any, .any, .any, .any, .any, .any, .any, .any, .any, .any, .any, .any, .any, .any, .any, .any, .any, .any, .any, .any, .any, .any, .any, .any, .any, .any, .any, .any, .any, .any, .any, .any, .any, .any, .any, .any, .any, .any, .any, .any, .any, .any] (h ++ [])) : ACalls Tryd.prog 11 [a0] h R := ACalls.intoG k11 rfl hw
/-- texts, a blank between -/
def joinS : List Bs → Bs
  | [] => []
  | [a] => a
  | a :: b :: l => a ++ 32 :: joinS (b :: l)
theorem join_S : ∀ l : List Bs, Lib.join l [32] = joinS l
  | [] => rfl
  | [a] => by simp [Lib.join, joinS, List.intercalate]
  | a :: b :: l => by
    have := join_S (b :: l)
    unfold Lib.join at this ⊢
    rw [joinS, ← this]
    simp [List.intercalate]
theorem joinS_len : ∀ (l : List Bs) (n : Nat), (∀ x ∈ l, x.length ≤ n) → (joinS l).length ≤ l.length * (n + 1)
  | [], n, h => Nat.zero_le _
  | [a], n, h => by have := h a (by simp); simp [joinS]; omega
  | a :: b :: l, n, h => by
    have h1 := h a (by simp)
    have h2 := joinS_len (b :: l) n (fun x hx => h x (by simp [hx]))
    rw [joinS]
    simp only [List.length_append, List.length_cons] at h2 ⊢
    rw [Nat.add_mul (l.length + 1) 1]
    omega
def lineB (x : Ln) : Bs := (if x.2.1 = true then [32] else []) ++ (joinS (x.2.2.map fun f => aB (textB f)) ++ [10])
def joinE : List Ln → Int
  | [] => 0
  | x :: xs => if lineE x.2.2 ≠ 0 then lineE x.2.2 else joinE xs
def joinT (l : List Ln) : Bs := l.flatMap lineB
def joinV (l : List Ln) : ByteArray × Int :=
  if 200 < l.length then (bA [], 2) else if joinE l ≠ 0 then (bA [], joinE l) else if 8000 < (joinT l).length then (bA [], 2) else (bA (joinT l), 0)
def okLns (l : List Ln) : Prop := ∀ x ∈ l, ∀ f ∈ x.2.2, f.size ≤ maxLen
theorem firstE_ok : ∀ {fs : List ByteArray}, firstE fs = 0 → ∀ f ∈ fs, fieldE f = 0
  | [], _, f, hf => by simp at hf
  | g :: fs, h, f, hf => by
    rw [firstE] at h
    split at h
    · rename_i h1; exact absurd h h1
    · rename_i h1
      rcases List.mem_cons.1 hf with rfl | hf
      · exact Decidable.of_not_not h1
      · exact firstE_ok h f hf
theorem lineE_ok {fs : List ByteArray} (h : lineE fs = 0) : 0 < fs.length ∧ fs.length ≤ 12 ∧ ∀ f ∈ fs, fieldE f = 0 := by
  unfold lineE at h
  split at h
  · cases h
  · split at h
    · cases h
    · exact ⟨by omega, by omega, firstE_ok h⟩
theorem textB_len {f : ByteArray} (h : fieldE f = 0) : (textB f).size ≤ 26 := by
  have := (fieldE_ok h).2
  unfold textB
  split
  · rw [ByteArray.size_append, ByteArray.size_append, bA_size, List.length_singleton]; omega
  · omega
theorem joinF_len {fs : List ByteArray} (h : lineE fs = 0) : (joinS (fs.map fun f => aB (textB f))).length ≤ 324 := by
  obtain ⟨h1, h2, h3⟩ := lineE_ok h
  have := joinS_len (fs.map fun f => aB (textB f)) 26 (fun x hx => by
    obtain ⟨f, hf, rfl⟩ := List.mem_map.1 hx
    exact textB_len (h3 f hf))
  rw [List.length_map] at this
  omega
theorem strjoinO_a {l : List ByteArray} {id v ty n : Nat} {h : AH} (hnl : l.length = n) (he : h[id]? = some (.mk v ty 1 (rows strC l))) (hl : 0 < l.length) (hz : l.length ≤ 8000) (hj : (joinS (l.map aB)).length ≤ 100000) :
    ACalls Tryd.prog 22 [.own id v n, sv (bA [32])] h fun x h' => h' = h ∧ x = .ret (sv (bA (joinS (l.map aB)))) := by
  subst hnl
  refine ACalls.of_below (by kernel_rfl) fun w g vs hs ha => ?_
  simp only [RepL, Rep] at ha
  obtain ⟨u1, us1, e1, ⟨A, cap, l1, q1, q2, rfl⟩, u2, us2, rfl, rfl, rfl⟩ := ha
  obtain rfl : vs = #[.slice A l.length cap, .string (bA [32])] := by cases vs; simp_all
  obtain ⟨A', cap', f1, fm, f3⟩ := hs.ent _ _ _ _ _ he
  rw [l1] at f1
  simp only [Option.some.injEq, Prod.mk.injEq] at f1
  obtain ⟨rfl, rfl⟩ := f1
  rcases f3 with ⟨hz, _⟩ | ⟨b, arr, rfl, hc0, hd, hb, hsz, hle, hrl⟩
  · have := congrArg List.length hz
    rw [str_len] at this; simp at this; omega
  rw [str_len, Nat.mul_one] at hrl hle
  have htake := repL_str.1 hrl
  have hJ : Lib.join (l.map (·.data.toList)) (bA [32]).data.toList = joinS (l.map aB) := join_S _
  refine (Tryd.strings_Join b 0 cap l (bA [32]) w ?_ (Array.getElem?_eq_some_iff.1 hb).1 (by omega) q1 (by rw [hJ]; omega)).mono ?_
  · intro j x hx
    obtain ⟨hj, rfl⟩ := List.getElem?_eq_some_iff.1 hx
    rw [cell_of_row w b (0 + j) arr _ _ hb, Nat.zero_add]
    have := congrArg (·[j]?) htake
    simpa [List.getElem?_take, hj] using this
  · rintro e w' ⟨rfl, hbw⟩
    refine ⟨_, rfl, hbw, ?_⟩
    simp only [Rep]
    rw [hJ]; rfl
theorem joinE_at {l : List Ln} {k : Nat} (h : k < l.length) : joinE (l.drop k) = if lineE (l[k]).2.2 ≠ 0 then lineE (l[k]).2.2 else joinE (l.drop (k + 1)) := by
  rw [List.drop_eq_getElem_cons h, joinE]
theorem joinT_at {l : List Ln} {k : Nat} (h : k < l.length) : joinT (l.drop k) = lineB l[k] ++ joinT (l.drop (k + 1)) := by
  rw [List.drop_eq_getElem_cons h]; rfl
/-- fields of which the first ones are told as they are shown -/
def texted (fs : List ByteArray) (j : Nat) : List ByteArray := (fs.take j).map textB ++ fs.drop j
theorem texted_zero (fs : List ByteArray) : texted fs 0 = fs := rfl
theorem texted_len {fs : List ByteArray} {j : Nat} : (texted fs j).length = fs.length := by
  unfold texted
  simp; omega
theorem texted_end {fs : List ByteArray} : texted fs fs.length = fs.map textB := by unfold texted; simp
theorem texted_at {fs : List ByteArray} {j : Nat} (h : j < fs.length) (h2 : j < (texted fs j).length) : (texted fs j)[j] = fs[j] := by
  have e : (texted fs j)[j]? = some fs[j] := by
    unfold texted
    rw [List.getElem?_append_right (by simp; omega)]
    simp only [List.length_map, List.length_take, List.getElem?_drop]
    rw [show j + (j - min j fs.length) = j by omega, List.getElem?_eq_getElem h]
  rw [List.getElem?_eq_getElem h2] at e
  exact Option.some.inj e
theorem texted_set {fs : List ByteArray} {j : Nat} (h : j < fs.length) : (texted fs j).set j (textB fs[j]) = texted fs (j + 1) := by
  unfold texted
  rw [List.set_append_right _ _ (by simp; omega), List.drop_eq_getElem_cons h, List.take_succ_eq_append_getElem h, List.map_append, List.append_assoc]
  congr 1
  simp only [List.length_map, List.length_take]
  rw [show j - min j fs.length = 0 by omega]
  rfl
set_option maxHeartbeats 2000000 in
theorem lnJoin_some {l : List Ln} {full : Bool} {h : AH} (hpos : 0 < l.length) (hok : okLns l) : ACalls Tryd.prog 11 [.sl l.length 3 full (rows lnC l)] h fun x h' => h' = h ∧ x = .ret (.tup [sv (joinV l).1, iv (joinV l).2]) := by
  refine i11 ?_
  intro N hn hlt hlA hbd
  try simp only [AV.bdL, AV.bd, and_true, true_and] at hbd
  refine w_seq ?_
  refine w_reg ?_
  refine s_val rfl (v_mv lks) pt2 ?_
  refine s_val rfl (v_mv lki) pt3 ?_
  refine s_nil ?_
  refine n_seq ?_
  refine w_seq ?_
  refine w_seq ?_
  refine w_reg ?_
  refine s_val rfl (v_mv lk0) pt10 ?_
  refine s_val rfl (v_lenL lk10) pt11 ?_
  refine s_val rfl (v_gtr lk11 lki) pt12 ?_
  refine s_nil ?_
  refine n_seq ?_
  first | refine w_cond lk12 (fun hc1 => ?_) (fun hc1 => ?_) | refine w_condB lk12 (fun hc1 => ?_) (fun hc1 => ?_)
  · skip
    have hV : joinV l = (bA [], 2) := if_pos (by omega)
    refine w_seq ?_
    refine w_reg ?_
    refine s_val rfl (v_mv lks) pt2 ?_
    refine s_val rfl (v_mv lki) pt3 ?_
    refine s_nil ?_
    refine n_seq ?_
    refine w_rets ?_
    refine r_thn ?_
    refine w_ret (rsn (rm1 (rr_t gt2) (rm1 (rr_t gt3) rm0))) ?_
    refine rt (by first | rfl | (simp only [AV.lt, AV.ltL, Ent.lt, List.all_cons, List.all_nil, Bool.and_true, Bool.and_self, decide_true, str_lt, ln_lt, by_lt]; done) | (simp [AV.lt, AV.ltL, Ent.lt, str_lt, ln_lt, by_lt, *]; done) | (simp [AV.lt, AV.ltL, Ent.lt, str_lt, ln_lt, by_lt, *]; omega)) ?_
    rw [hV]; rfl
  · skip
    have hV : joinV l = if joinE l ≠ 0 then (bA [], joinE l) else if 8000 < (joinT l).length then (bA [], 2) else (bA (joinT l), 0) := if_neg (by omega)
    refine w_skip ?_
    refine n_seq ?_
    refine w_seq ?_
    refine w_reg ?_
    refine s_eff rfl rfl (e_new (hl0 hn) ha0) pt4 ?_
    refine s_nil ?_
    refine n_seqw (ALe.own0Cell (st' := 1) (ty := 5) (hga hn rfl) gt1 (hl1 hn) pt1 (Eq.trans (congrArg (fun z => List.set z _ _) ha1) (hs0 hn))) ?_
    refine w_seq ?_
    refine w_seq ?_
    refine w_reg ?_
    refine s_val rfl (v_mv lk0) pt13 ?_
    refine s_val rfl (v_lenL lk13) pt14 ?_
    refine s_val rfl (v_mv lki) pt15 ?_
    refine s_nil ?_
    refine n_seq ?_
    refine w_block ?_
    refine w_loop (ι := Nat × Bs × Nat × AV) (fun (x_ : Nat × Bs × Nat × AV) => match x_ with | ⟨k, T, v, p⟩ => [(15, iv (k : Int)), (2, .any), (3, .any), (6, .any), (7, .any), (8, .any), (9, .any), (16, .any), (17, .any), (18, .any), (19, .any), (20, .any), (21, .any), (22, .any), (23, .any), (24, .any), (25, .any), (26, .any), (27, .any), (28, .any), (29, .any), (30, .any), (31, .any), (32, .any), (33, .any), (34, .any), (35, .any), (36, .any), (37, .any), (38, .any), (39, .any), (40, .any), (41, .any), (42, .any), (43, .any), (44, .any), (45, .any), (46, .any), (47, .any), (48, .any)]) (fun (x_ : Nat × Bs × Nat × AV) => match x_ with | ⟨k, T, v, p⟩ => [(0, .mk 0 44 2 [p, .own (N + 1) v T.length]), (1, .mk v 5 1 (rows byC T))]) (fun (x_ : Nat × Bs × Nat × AV) => match x_ with | ⟨k, T, v, p⟩ => k ≤ l.length ∧ bldP (N + 0) 0 p ∧ joinE l = joinE (l.drop k) ∧ joinT l = T ++ joinT (l.drop k) ∧ T.length ≤ 400 * k) (fun (x_ : Nat × Bs × Nat × AV) => match x_ with | ⟨k, T, v, p⟩ => l.length - k) (⟨0, [], 0, .v (.pointer none)⟩) (by exact ⟨Nat.zero_le _, .inl rfl, rfl, rfl, by simp⟩) (by try simp only [setsT, setsE, List.set_cons_zero, List.set_cons_succ]; exact ALe.same (wk1 rfl (wk1 rfl (wka (wka (wk1 rfl (wk1 rfl (wka (wka (wka (wka (wk1 rfl (wk1 rfl (wk1 rfl (wk1 rfl (wk1 rfl (wk1 (by first | rfl | exact ivx (by omega) | (simp; done)) (wka (wka (wka (wka (wka (wka (wka (wka (wka (wka (wka (wka (wka (wka (wka (wka (wka (wka (wka (wka (wka (wka (wka (wka (wka (wka (wka (wka (wka (wka (wka (wka (wka (wk1 rfl (wk1 rfl (wk1 rfl wk0)))))))))))))))))))))))))))))))))))))))))))))))))))) rfl) ?_
    rintro ⟨k, T, v, p⟩ hi1
    try simp only [setsT, setsE, List.set_cons_zero, List.set_cons_succ]
    obtain ⟨hk1, hp, hk3, hk4, hk5⟩ := hi1
    refine w_seq ?_
    refine w_reg ?_
    refine s_val rfl (v_lss lk15 lk14) pt16 ?_
    refine s_nil ?_
    refine n_seq ?_
    refine w_seq ?_
    first | refine w_cond lk16 (fun hc2 => ?_) (fun hc2 => ?_) | refine w_condB lk16 (fun hc2 => ?_) (fun hc2 => ?_)
    · skip
      have hk : k < l.length := by omega
      rw [joinE_at hk] at hk3
      rw [joinT_at hk] at hk4
      have hfs := hok _ (List.getElem_mem hk)
      refine w_skip ?_
      refine n_seq ?_
      refine w_seq ?_
      refine w_block ?_
      refine w_seq ?_
      refine w_reg ?_
      refine s_val rfl (v_iaR lk13 lk15 ln_len1 (Nat.le_of_ble_eq_true rfl) (by first | rfl | omega) (by omega) (by first | rfl | omega) rfl) pt17 ?_
      refine s_val rfl (v_loadrA lk17 LineE_tk_3 rfl) pt18 ?_
      refine s_eff rfl rfl (e_new (hl2 hn) ha2) pt6 ?_
      refine s_eff rfl rfl (e_store lk6 (cvl lk18 rfl) (hga hn rfl) rfl (Nat.le_of_ble_eq_true rfl) rfl LineE_sc0_3 (hs2 hn)) ptn ?_
      refine s_nil ?_
      refine n_seq ?_
      refine w_seq ?_
      refine w_seq ?_
      refine w_reg ?_
      refine s_val rfl (v_loadpA lk6 (hga hn rfl) LineE_tk0_3 rfl) pt19 ?_
      refine s_callp (mp1 lk19 mp0) (lnlineE_a hfs) pt20 ?_
      refine s_val rfl (v_mv lk20) pt7 ?_
      refine s_nil ?_
      refine n_seq ?_
      refine w_seq ?_
      refine w_reg ?_
      refine s_val rfl (v_mv lk7) pt21 ?_
      refine s_val rfl (v_neq lk21 lki) pt22 ?_
      refine s_nil ?_
      refine n_seq ?_
      first | refine w_cond lk22 (fun hc3 => ?_) (fun hc3 => ?_) | refine w_condB lk22 (fun hc3 => ?_) (fun hc3 => ?_)
      · skip
        rw [if_pos hc3] at hk3
        rw [if_pos (by rw [hk3]; exact hc3), hk3] at hV
        refine w_seq ?_
        refine w_reg ?_
        refine s_val rfl (v_mv lk7) pt23 ?_
        refine s_val rfl (v_mv lks) pt2 ?_
        refine s_val rfl (v_mv lk23) pt3 ?_
        refine s_nil ?_
        refine n_seq ?_
        refine w_rets ?_
        refine r_thn ?_
        refine r_blk ?_
        refine r_thn ?_
        refine r_thn ?_
        refine r_blk ?_
        refine r_thn ?_
        refine w_ret (rsn (rm1 (rr_t gt2) (rm1 (rr_t gt3) rm0))) ?_
        refine rt (by first | rfl | (simp only [AV.lt, AV.ltL, Ent.lt, List.all_cons, List.all_nil, Bool.and_true, Bool.and_self, decide_true, str_lt, ln_lt, by_lt]; done) | (simp [AV.lt, AV.ltL, Ent.lt, str_lt, ln_lt, by_lt, *]; done) | (simp [AV.lt, AV.ltL, Ent.lt, str_lt, ln_lt, by_lt, *]; omega)) ?_
        rw [hV]; rfl
      · skip
        have hok0 : lineE (l[k]).2.2 = 0 := Decidable.of_not_not hc3
        rw [if_neg (by rw [hok0]; simp)] at hk3
        obtain ⟨he1, he2, he3⟩ := lineE_ok hok0
        have hjl := joinF_len hok0
        have hlb : lineB l[k] = (if (l[k]).2.1 = true then [32] else []) ++ (joinS ((l[k]).2.2.map fun f => aB (textB f)) ++ [10]) := rfl
        refine w_skip ?_
        refine n_seq ?_
        refine w_seqC (ι := Bs × Nat × AV) (fun (x_ : Bs × Nat × AV) => match x_ with | ⟨T2, v2, p2⟩ => [(6, .ptr (N + 2) 0 0), (24, .any), (25, .any), (26, .any)]) (fun (x_ : Bs × Nat × AV) => match x_ with | ⟨T2, v2, p2⟩ => [(0, .mk 0 44 2 [p2, .own (N + 1) v2 T2.length]), (1, .mk v2 5 1 (rows byC T2))]) (fun (x_ : Bs × Nat × AV) => match x_ with | ⟨T2, v2, p2⟩ => bldP (N + 0) 0 p2 ∧ T2 = T ++ (if (l[k]).2.1 = true then [32] else [])) ?_ ?_
        · try simp only [setsT, setsE, List.set_cons_zero, List.set_cons_succ]
          refine w_seq ?_
          refine w_reg ?_
          refine s_val rfl (v_fap0 lk6) pt24 ?_
          refine s_val rfl (v_loadp lk24 (hga hn rfl) gt1) pt25 ?_
          refine s_nil ?_
          refine n_seq ?_
          first | refine w_cond lk25 (fun hc4 => ?_) (fun hc4 => ?_) | refine w_condB lk25 (fun hc4 => ?_) (fun hc4 => ?_)
          · skip
            refine w_reg ?_
            refine s_call2 (mp1 lk4 (mp1 lks mp0)) (bldWrite_a (hga hn rfl) (hga hn rfl) (by omega) hp (by rw [show (⟨#[32]⟩ : ByteArray).size = 1 from rfl]; omega)) (hs0 hn) (hs1 hn) pt26 ?_
            refine s_nil ?_
            refine n_thn ?_
            exact ⟨⟨T ++ [32], v + 1, .ptr (N + 0) 0 0⟩, (by exact ⟨.inr rfl, by rw [if_pos hc4]⟩), (by (try dsimp only); (try simp only [setsT, setsE, List.set_cons_zero, List.set_cons_succ]); exact ALe.same (wk1 rfl (wk1 rfl (wk1 rfl (wk1 rfl (wk1 rfl (wk1 rfl (wk1 (by first | rfl | exact ivx (by omega) | (simp; done)) (wk1 rfl (wk1 rfl (wk1 rfl (wk1 rfl (wk1 rfl (wk1 rfl (wk1 rfl (wk1 rfl (wk1 rfl (wk1 rfl (wk1 rfl (wk1 rfl (wk1 rfl (wk1 rfl (wk1 rfl (wk1 rfl (wk1 rfl (wka (wka (wka (wk1 rfl (wk1 rfl (wk1 rfl (wk1 rfl (wk1 rfl (wk1 rfl (wk1 rfl (wk1 rfl (wk1 rfl (wk1 rfl (wk1 rfl (wk1 rfl (wk1 rfl (wk1 rfl (wk1 rfl (wk1 rfl (wk1 rfl (wk1 rfl (wk1 rfl (wk1 rfl (wk1 rfl (wk1 rfl (wk1 rfl (wk1 rfl (wk1 rfl wk0)))))))))))))))))))))))))))))))))))))))))))))))))))) rfl)⟩
          · skip
            refine w_skip ?_
            refine n_thn ?_
            exact ⟨⟨T, v, p⟩, (by exact ⟨hp, by rw [if_neg (by rw [hc4]; simp), List.append_nil]⟩), (by (try dsimp only); (try simp only [setsT, setsE, List.set_cons_zero, List.set_cons_succ]); exact ALe.same (wk1 rfl (wk1 rfl (wk1 rfl (wk1 rfl (wk1 rfl (wk1 rfl (wk1 (by first | rfl | exact ivx (by omega) | (simp; done)) (wk1 rfl (wk1 rfl (wk1 rfl (wk1 rfl (wk1 rfl (wk1 rfl (wk1 rfl (wk1 rfl (wk1 rfl (wk1 rfl (wk1 rfl (wk1 rfl (wk1 rfl (wk1 rfl (wk1 rfl (wk1 rfl (wk1 rfl (wka (wka (wka (wk1 rfl (wk1 rfl (wk1 rfl (wk1 rfl (wk1 rfl (wk1 rfl (wk1 rfl (wk1 rfl (wk1 rfl (wk1 rfl (wk1 rfl (wk1 rfl (wk1 rfl (wk1 rfl (wk1 rfl (wk1 rfl (wk1 rfl (wk1 rfl (wk1 rfl (wk1 rfl (wk1 rfl (wk1 rfl (wk1 rfl (wk1 rfl (wk1 rfl wk0)))))))))))))))))))))))))))))))))))))))))))))))))))) rfl)⟩
        · rintro ⟨T2, v2, p2⟩ hq15
          try simp only [setsT, setsE, List.set_cons_zero, List.set_cons_succ]
          obtain ⟨hp2, hT2⟩ := hq15
          have hT2l : T2.length ≤ T.length + 1 := by rw [hT2]; split <;> simp
          refine w_seq ?_
          refine w_reg ?_
          refine s_val rfl (v_fap0 lk6) pt27 ?_
          refine s_val rfl (v_loadp lk27 (hga hn rfl) gt2) pt28 ?_
          refine s_calla (mp1 lk28 mp0) (lnclone_a (by omega)) (hl3 hn) (fun _ => ha3) (fun _ => pt29) (fun va30 => ?_)
          refine s_val rfl (v_mv lk29) pt8 ?_
          refine s_nil ?_
          refine n_seq ?_
          refine w_seq ?_
          refine w_seq ?_
          refine w_reg ?_
          refine s_val rfl (v_mv lk8) pt30 ?_
          refine s_val rfl (v_lenO lk30) pt31 ?_
          refine s_val rfl (v_mv lki) pt32 ?_
          refine s_nil ?_
          refine n_seq ?_
          refine w_block ?_
          refine w_loop (ι := Nat) (fun (j : Nat) => [(32, iv (j : Int)), (9, .any), (33, .any), (34, .any), (35, .any), (36, .any), (37, .any), (38, .any), (39, .any), (40, .any), (41, .any), (42, .any), (43, .any)]) (fun (j : Nat) => [(3, .mk va30 9 1 (rows strC (texted (l[k]).2.2 j)))]) (fun (j : Nat) => j ≤ (l[k]).2.2.length) (fun (j : Nat) => (l[k]).2.2.length - j) (0) (by exact Nat.zero_le _) (by try simp only [setsT, setsE, List.set_cons_zero, List.set_cons_succ]; exact ALe.same (wk1 rfl (wk1 rfl (wk1 rfl (wk1 rfl (wk1 rfl (wk1 rfl (wk1 rfl (wk1 rfl (wk1 rfl (wka (wk1 rfl (wk1 rfl (wk1 rfl (wk1 rfl (wk1 rfl (wk1 rfl (wk1 rfl (wk1 rfl (wk1 rfl (wk1 rfl (wk1 rfl (wk1 rfl (wk1 rfl (wk1 rfl (wk1 rfl (wk1 rfl (wk1 rfl (wk1 rfl (wk1 rfl (wk1 rfl (wk1 rfl (wk1 rfl (wk1 (by first | rfl | exact ivx (by omega) | (simp; done)) (wka (wka (wka (wka (wka (wka (wka (wka (wka (wka (wka (wk1 rfl (wk1 rfl (wk1 rfl (wk1 rfl (wk1 rfl (wk1 rfl (wk1 rfl (wk1 rfl wk0)))))))))))))))))))))))))))))))))))))))))))))))))))) rfl) ?_
          rintro j hi2
          try simp only [setsT, setsE, List.set_cons_zero, List.set_cons_succ]
          refine w_seq ?_
          refine w_reg ?_
          refine s_val rfl (v_lss lk32 lk31) pt33 ?_
          refine s_nil ?_
          refine n_seq ?_
          refine w_seq ?_
          first | refine w_cond lk33 (fun hc5 => ?_) (fun hc5 => ?_) | refine w_condB lk33 (fun hc5 => ?_) (fun hc5 => ?_)
          · skip
            have hj : j < (l[k]).2.2.length := by omega
            have hjt : j < (texted (l[k]).2.2 j).length := by rw [texted_len]; exact hj
            have hat := texted_at hj hjt
            have htl := texted_len (fs := (l[k]).2.2) (j := j)
            refine w_skip ?_
            refine n_seq ?_
            refine w_seq ?_
            refine w_block ?_
            refine w_seq ?_
            refine w_reg ?_
            refine s_val rfl (v_mv lk32) pt34 ?_
            refine s_val rfl (v_mv lk34) pt9 ?_
            refine s_nil ?_
            refine n_seq ?_
            refine w_reg ?_
            refine s_val rfl (v_mv lk8) pt35 ?_
            refine s_val rfl (v_mv lk9) pt36 ?_
            refine s_val rfl (v_mv lk8) pt37 ?_
            refine s_val rfl (v_mv lk9) pt38 ?_
            refine s_val rfl (v_iaOR (k := j) lk37 lk38 (hga hn rfl) str_len1 (Nat.le_of_ble_eq_true rfl) (by first | rfl | omega) (by omega) (by first | rfl | (simp; done) | omega)) pt39 ?_
            refine s_val rfl (v_ldOR1 lk39 (hga hn rfl) str_len1 (by omega) rfl) pt40 ?_
            rw [hat]
            refine s_callp (mp1 lk40 mp0) (lntext_a (he3 _ (List.getElem_mem hj))) pt41 ?_
            refine s_val rfl (v_iaOR (k := j) lk35 lk36 (hga hn rfl) str_len1 (Nat.le_of_ble_eq_true rfl) (by first | rfl | omega) (by omega) (by first | rfl | (simp; done) | omega)) pt42 ?_
            refine s_eff rfl rfl (e_stOR (z := textB (l[k]).2.2[j]) lk42 (cvl lk41 rfl) (hga hn rfl) str_len1 rfl (by omega) (hs3 hn)) ptn ?_
            refine s_nil ?_
            refine n_blk ?_
            refine n_seq ?_
            refine w_reg ?_
            refine s_val rfl (v_add lk32 lki (by omega) (by omega)) pt43 ?_
            refine s_val rfl (v_mv lk43) pt32 ?_
            refine s_nil ?_
            refine n_thn ?_
            refine LoopTo.mk (j + 1) (by first | omega | (dsimp only; omega)) (by (try dsimp only); omega) (by (try dsimp only); (try simp only [setsT, setsE, List.set_cons_zero, List.set_cons_succ]); exact ALe.same (wk1 rfl (wk1 rfl (wk1 rfl (wk1 rfl (wk1 rfl (wk1 rfl (wk1 rfl (wk1 rfl (wk1 rfl (wka (wk1 rfl (wk1 rfl (wk1 rfl (wk1 rfl (wk1 rfl (wk1 rfl (wk1 rfl (wk1 rfl (wk1 rfl (wk1 rfl (wk1 rfl (wk1 rfl (wk1 rfl (wk1 rfl (wk1 rfl (wk1 rfl (wk1 rfl (wk1 rfl (wk1 rfl (wk1 rfl (wk1 rfl (wk1 rfl (wk1 (by first | rfl | exact ivx (by omega) | (simp; done)) (wka (wka (wka (wka (wka (wka (wka (wka (wka (wka (wka (wk1 rfl (wk1 rfl (wk1 rfl (wk1 rfl (wk1 rfl (wk1 rfl (wk1 rfl (wk1 rfl wk0)))))))))))))))))))))))))))))))))))))))))))))))))))) (by rw [← texted_set hj]))
          · skip
            have hje : j = (l[k]).2.2.length := by omega
            subst hje
            rw [texted_end]
            refine w_exit ?_
            refine x_thn ?_
            refine x_thn ?_
            refine x_blk ?_
            refine n_seq ?_
            refine w_reg ?_
            refine s_val rfl (v_mv lk8) pt44 ?_
            refine s_callp (mp1 lk44 (mp1 lks mp0)) (strjoinO_a (l := (l[k]).2.2.map textB) (List.length_map _) (hga hn rfl) (by rw [List.length_map]; omega) (by rw [List.length_map]; omega) (by rw [List.map_map]; exact Nat.le_trans hjl (by decide))) pt45 ?_
            rw [List.map_map, show (aB ∘ textB) = fun f => aB (textB f) from rfl]
            refine s_val rfl (v_addS lk45 lks (by rw [bA_size, show (⟨#[10]⟩ : ByteArray).size = 1 from rfl]; omega)) pt46 ?_
            rw [show (⟨#[10]⟩ : ByteArray) = bA [10] from rfl, bA_app]
            refine s_call2 (mp1 lk4 (mp1 lk46 mp0)) (bldWrite_a (hga hn rfl) (hga hn rfl) (by omega) hp2 (by rw [bA_size, List.length_append, List.length_singleton]; omega)) (hs0 hn) (hs1 hn) pt47 ?_
            refine s_nil ?_
            refine n_blk ?_
            refine n_seq ?_
            refine w_reg ?_
            refine s_val rfl (v_add lk15 lki (by omega) (by omega)) pt48 ?_
            refine s_val rfl (v_mv lk48) pt15 ?_
            refine s_nil ?_
            refine n_thn ?_
            refine LoopTo.mk (⟨k + 1, T2 ++ aB (bA (joinS ((l[k]).2.2.map fun f => aB (textB f)) ++ [10])), v2 + 1, .ptr (N + 0) 0 0⟩) (by first | omega | (dsimp only; omega)) (by (try dsimp only); exact ⟨by omega, .inr rfl, hk3, by rw [hk4, hlb, hT2, aB_bA]; simp [List.append_assoc], by rw [aB_bA, List.length_append, List.length_append, List.length_singleton]; omega⟩) (by (try dsimp only); (try simp only [setsT, setsE, List.set_cons_zero, List.set_cons_succ]); exact ALe.back (wk1 rfl (wk1 rfl (wka (wka (wk1 rfl (wk1 rfl (wka (wka (wka (wka (wk1 rfl (wk1 rfl (wk1 rfl (wk1 rfl (wk1 rfl (wk1 (by first | rfl | exact ivx (by omega) | (simp; done)) (wka (wka (wka (wka (wka (wka (wka (wka (wka (wka (wka (wka (wka (wka (wka (wka (wka (wka (wka (wka (wka (wka (wka (wka (wka (wka (wka (wka (wka (wka (wka (wka (wka (wk1 rfl (wk1 rfl (wk1 rfl wk0)))))))))))))))))))))))))))))))))))))))))))))))))))) (by rfl) (k := N + 2) (by simp only [List.length_cons, List.length_nil, hn]) (by omega) (by first | rfl | (simp only [AV.lt, AV.ltL, Ent.lt, List.all_cons, List.all_nil, Bool.and_true, Bool.and_self, decide_true, str_lt, ln_lt, by_lt]; done) | (simp [AV.lt, AV.ltL, Ent.lt, str_lt, ln_lt, by_lt, *]; done) | (simp [AV.lt, AV.ltL, Ent.lt, str_lt, ln_lt, by_lt, *]; omega)) (ltw (by omega) hlt) (by first | rfl | (simp only [AV.lt, AV.ltL, Ent.lt, List.all_cons, List.all_nil, Bool.and_true, Bool.and_self, decide_true, str_lt, ln_lt, by_lt]; done) | (simp [AV.lt, AV.ltL, Ent.lt, str_lt, ln_lt, by_lt, *]; done) | (simp [AV.lt, AV.ltL, Ent.lt, str_lt, ln_lt, by_lt, *]; omega)))
    · skip
      have hkl : k = l.length := by omega
      rw [List.drop_of_length_le (by omega), joinE] at hk3
      rw [List.drop_of_length_le (by omega), show joinT [] = [] from rfl, List.append_nil] at hk4
      rw [if_neg (by rw [hk3]; simp), hk4] at hV
      refine w_exit ?_
      refine x_thn ?_
      refine x_thn ?_
      refine x_blk ?_
      refine n_seq ?_
      refine w_seq ?_
      refine w_seq ?_
      refine w_reg ?_
      refine s_callp (mp1 lk4 mp0) (bldLen_a (hga hn rfl)) pt49 ?_
      refine s_val rfl (v_gtr lk49 lki) pt50 ?_
      refine s_nil ?_
      refine n_seq ?_
      first | refine w_cond lk50 (fun hc6 => ?_) (fun hc6 => ?_) | refine w_condB lk50 (fun hc6 => ?_) (fun hc6 => ?_)
      · skip
        rw [if_pos (by omega)] at hV
        refine w_seq ?_
        refine w_reg ?_
        refine s_val rfl (v_mv lks) pt2 ?_
        refine s_val rfl (v_mv lki) pt3 ?_
        refine s_nil ?_
        refine n_seq ?_
        refine w_rets ?_
        refine r_thn ?_
        refine w_ret (rsn (rm1 (rr_t gt2) (rm1 (rr_t gt3) rm0))) ?_
        refine rt (by first | rfl | (simp only [AV.lt, AV.ltL, Ent.lt, List.all_cons, List.all_nil, Bool.and_true, Bool.and_self, decide_true, str_lt, ln_lt, by_lt]; done) | (simp [AV.lt, AV.ltL, Ent.lt, str_lt, ln_lt, by_lt, *]; done) | (simp [AV.lt, AV.ltL, Ent.lt, str_lt, ln_lt, by_lt, *]; omega)) ?_
        rw [hV]; rfl
      · skip
        rw [if_neg (by omega)] at hV
        have hTne : T ≠ [] := by
          intro e
          rw [e] at hk4
          cases l with
          | nil => simp at hpos
          | cons x xs => simp [joinT, lineB] at hk4
        refine w_skip ?_
        refine n_seq ?_
        refine w_seq ?_
        refine w_reg ?_
        refine s_calls (mp1 lk4 mp0) (bldString_a (hga hn rfl) (hga hn rfl) hTne) (hs1 hn) pt51 ?_
        refine s_val rfl (v_mv lk51) pt2 ?_
        refine s_val rfl (v_mv lki) pt3 ?_
        refine s_nil ?_
        refine n_seq ?_
        refine w_rets ?_
        refine w_ret (rsn (rm1 (rr_t gt2) (rm1 (rr_t gt3) rm0))) ?_
        refine rt (by first | rfl | (simp only [AV.lt, AV.ltL, Ent.lt, List.all_cons, List.all_nil, Bool.and_true, Bool.and_self, decide_true, str_lt, ln_lt, by_lt]; done) | (simp [AV.lt, AV.ltL, Ent.lt, str_lt, ln_lt, by_lt, *]; done) | (simp [AV.lt, AV.ltL, Ent.lt, str_lt, ln_lt, by_lt, *]; omega)) ?_
        rw [hV]
set_option maxHeartbeats 1000000 in
theorem bstring_nil (b : Nat) (w : World) (hbk : w.cell? ⟨b, 1, none⟩ = some (.slice none 0 0)) :
    Calls Tryd.prog 24 #[.pointer (some ⟨b, 0, none⟩)] w fun e w' => e = .returned (.string ⟨#[]⟩) ∧ w' = w.drew := by
  have c1 : w.drew.cell? ⟨b, 1, none⟩ = some (.slice none 0 0) := hbk
  have hSD : (Builtin.unsafeSliceData_ #[42] 64 #[.slice none 0 0]).run Tryd.prog w.drew = .ok (.pointer none) w.drew := rfl
  have hUS : (Builtin.unsafeString_ #[64, 3] 9 #[.pointer none, .int .i64 0]).run Tryd.prog w.drew = .ok (.string ⟨#[]⟩) w.drew :=
    Lib.run_unsafeString_none _ _ _ _ none
  have mixed : Tryd.prog.follows .mixedOrders = true := by kernel_rfl
  go_enter Tryd.func24, Tryd.ntmps24
  go_wp2
  go_region_o
  all_goals (go_wp2; go_ret; exact ⟨rfl, rfl⟩)
theorem blen_nil (b : Nat) (w : World) (hbk : w.cell? ⟨b, 1, none⟩ = some (.slice none 0 0)) :
    Calls Tryd.prog 23 #[.pointer (some ⟨b, 0, none⟩)] w fun e w' => e = .returned (.int .i64 0) ∧ w' = w := by
  go_enter Tryd.func23, Tryd.ntmps23
  go_wp2
  go_ret
  exact ⟨rfl, rfl⟩
set_option maxHeartbeats 1000000 in
theorem lnJoin_nilW (A : Option Addr) (c : Nat) (w : World) :
    Calls Tryd.prog 11 #[.slice A 0 c] w fun e w' => e = .returned (.tuple #[.string ⟨#[]⟩, .int .i64 0]) ∧ Below w.heap.size w w' := by
  go_enter Tryd.func11, Tryd.ntmps11
  go_wp2
  go_loopg [15] 1 (fun gk i wx => i = .int .i64 0 ∧ w.alloc (.cells #[.pointer none, .slice none 0 0] 44) = wx)
  case atStart => exact ⟨rfl, rfl⟩
  case round =>
    obtain ⟨rfl, rfl⟩ := hrel
    go_wp2_with (first | (go_at_call 23; refine (blen_nil _ _ (by simp)).mono ?_; rintro e w1 ⟨rfl, rfl⟩) | (go_at_call 24; refine (bstring_nil _ _ (by simp)).mono ?_; rintro e w1 ⟨rfl, rfl⟩))
    go_ret2
    exact ⟨rfl, ((Below.refl _ _).alloc (Nat.le_refl _) _).trans (Below.refl _ _).drew⟩
theorem lnJoin_a {l : List Ln} {full : Bool} {h : AH} (hok : okLns l) : ACalls Tryd.prog 11 [.sl l.length 3 full (rows lnC l)] h fun x h' => h' = h ∧ x = .ret (.tup [sv (joinV l).1, iv (joinV l).2]) := by
  rcases Nat.eq_zero_or_pos l.length with h0 | h0
  · obtain rfl : l = [] := List.length_eq_zero_iff.1 h0
    refine ACalls.of_below (by kernel_rfl) fun w g vs hs ha => ?_
    simp only [RepL, Rep] at ha
    obtain ⟨u1, us1, e1, ⟨_, A, cap, rfl, _⟩, rfl⟩ := ha
    obtain rfl : vs = #[.slice A 0 cap] := by cases vs; simp_all
    refine (lnJoin_nilW A cap w).mono ?_
    rintro e w' ⟨rfl, hb⟩
    refine ⟨_, rfl, hb, ?_⟩
    simp only [Rep, RepL]
    exact ⟨_, rfl, _, _, rfl, rfl, _, _, rfl, rfl, rfl⟩
  · exact lnJoin_some h0 hok
end Go.Proofs.YtgjchdhdopgkkaaDoor
