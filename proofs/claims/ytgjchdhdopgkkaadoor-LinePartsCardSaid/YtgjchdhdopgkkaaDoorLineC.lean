/-
  Contract on plain data: a text is split into lines. No condition.
-/
import Derived.Test.YtgjchdhdopgkkaaDoorLineB
import Derived.Test.YtgjchdhdopgkkaaDoorLnLib
import Derived.Test.YtgjchdhdopgkkaaDoorAbsH
import Derived.Test.YtgjchdhdopgkkaaDoorShelf
set_option linter.unusedVariables false
set_option linter.unusedSimpArgs false
set_option maxRecDepth 100000
namespace Go.Proofs.YtgjchdhdopgkkaaDoor
open Go.Ab Go.RowKit
section
theorem LineC_Split_46 {τ : Operand → AV} {y0 y1 y2 : Operand} {x0_0 x1_0 x2_0 : AV} (h0 : cellsV (τ y0) = some [x0_0]) (l0 : [x0_0].all leaf = true) (h1 : cellsV (τ y1) = some [x1_0]) (l1 : [x1_0].all leaf = true) (h2 : cellsV (τ y2) = some [x2_0]) (l2 : [x2_0].all leaf = true) : fillAV τ [(0, 1, y0), (1, 1, y1), (2, 1, y2)] [(.v (.int .i64 0)), (.v (.bool false)), (.sl 0 0 true [])] = some [x0_0, x1_0, x2_0] := by
  simp only [fillAV, h0, l0, h1, l1, h2, l2]
  rfl
theorem LineC_Split_47 {τ : Operand → AV} {y0 : Operand} {x0_0 x0_1 x0_2 : AV} (h0 : cellsV (τ y0) = some [x0_0, x0_1, x0_2]) (l0 : [x0_0, x0_1, x0_2].all leaf = true) : fillAV τ [(0, 3, y0)] [(.v (.int .i64 0)), (.v (.bool false)), (.sl 0 0 true [])] = some [x0_0, x0_1, x0_2] := by
  simp only [fillAV, h0, l0]
  rfl
theorem LineC_tk_3 {a0 a1 a2 : AV} {l : List AV} : (a0 :: a1 :: a2 :: l).take 3 = [a0, a1, a2] := rfl
end
/-- line.Split -/
def c8 : AC := (.seq (.reg [⟨(some 2), none, (.mv (.const (.slice none 0 0)))⟩, ⟨(some 3), none, (.mv (.const (.int .i64 0)))⟩, ⟨(some 4), none, (.mv (.const (.int .i64 0)))⟩]) (.seq (.seq (.reg [⟨(some 10), none, (.mv (.tmp 0))⟩, ⟨(some 11), none, (.len true (.tmp 10))⟩, ⟨(some 12), none, (.bin .gtr (.tmp 11) (.const (.int .i64 8000)))⟩]) (.cond (.tmp 12) (.seq (.reg [⟨(some 2), none, (.mv (.const (.slice none 0 0)))⟩, ⟨(some 3), none, (.mv (.const (.int .i64 0)))⟩, ⟨(some 4), none, (.mv (.const (.int .i64 2)))⟩]) .ret) .skip)) (.seq (.reg [⟨(some 5), none, (.mv (.const (.slice none 0 0)))⟩]) (.seq (.seq (.reg [⟨(some 13), none, (.mv (.tmp 0))⟩, ⟨(some 14), none, (.call (.func 13) [(.tmp 13), (.const (.string ⟨#[10]⟩))])⟩, ⟨(some 15), none, (.len false (.tmp 14))⟩, ⟨(some 16), none, (.mv (.const (.int .i64 0)))⟩]) (.block 0 (.loop (.seq (.reg [⟨(some 17), none, (.bin .lss (.tmp 16) (.tmp 15))⟩]) (.seq (.cond (.tmp 17) .skip (.exit 0)) (.seq (.block 1 (.seq (.reg [⟨(some 18), none, (.mv (.tmp 16))⟩, ⟨(some 19), none, (.ia 1 (.tmp 14) (.tmp 16))⟩, ⟨(some 20), none, (.load false 1 (.tmp 19))⟩, ⟨(some 6), none, (.mv (.tmp 18))⟩, ⟨(some 7), none, (.mv (.tmp 20))⟩]) (.seq (.reg [⟨(some 22), none, (.mv (.tmp 7))⟩, ⟨(some 23), none, (.call (.func 14) [(.tmp 22)])⟩, ⟨(some 21), none, (.mv (.tmp 23))⟩, ⟨(some 24), none, (.ext (.tmp 21) 0)⟩, ⟨(some 25), none, (.ext (.tmp 21) 1)⟩, ⟨(some 8), none, (.mv (.tmp 24))⟩, ⟨(some 9), none, (.mv (.tmp 25))⟩]) (.seq (.seq (.reg [⟨(some 26), none, (.mv (.tmp 9))⟩, ⟨(some 27), none, (.bin .neq (.tmp 26) (.const (.int .i64 0)))⟩]) (.cond (.tmp 27) (.seq (.reg [⟨(some 28), none, (.mv (.tmp 6))⟩, ⟨(some 29), none, (.bin .add (.tmp 28) (.const (.int .i64 1)))⟩, ⟨(some 30), none, (.mv (.tmp 9))⟩, ⟨(some 2), none, (.mv (.const (.slice none 0 0)))⟩, ⟨(some 3), none, (.mv (.tmp 29))⟩, ⟨(some 4), none, (.mv (.tmp 30))⟩]) .ret) .skip)) (.seq (.reg [⟨(some 31), none, (.mv (.tmp 8))⟩, ⟨(some 32), none, (.len false (.tmp 31))⟩, ⟨(some 33), none, (.bin .gtr (.tmp 32) (.const (.int .i64 0)))⟩]) (.cond (.tmp 33) (.reg [⟨(some 34), none, (.mv (.tmp 5))⟩, ⟨(some 35), none, (.mv (.tmp 6))⟩, ⟨(some 36), none, (.bin .add (.tmp 35) (.const (.int .i64 1)))⟩, ⟨(some 37), none, (.mv (.tmp 7))⟩, ⟨(some 38), none, (.ix (.tmp 37) (.const (.int .i64 0)))⟩, ⟨(some 39), none, (.call (.func 15) [(.tmp 38)])⟩, ⟨(some 40), none, (.mv (.tmp 8))⟩, ⟨(some 41), none, (.build [(.v (.int .i64 0)), (.v (.bool false)), (.sl 0 0 true [])] [(0, (1, (.tmp 36))), (1, (1, (.tmp 39))), (2, (1, (.tmp 40)))])⟩, ⟨(some 42), none, (.lit 29 3 1 [(.v (.int .i64 0)), (.v (.bool false)), (.sl 0 0 true [])] [(0, (3, (.tmp 41)))])⟩, ⟨(some 43), none, (.app 29 3 40 (.tmp 34) (.tmp 42))⟩, ⟨(some 5), none, (.mv (.tmp 43))⟩]) .skip)))))) (.reg [⟨(some 44), none, (.bin .add (.tmp 16) (.const (.int .i64 1)))⟩, ⟨(some 16), none, (.mv (.tmp 44))⟩]))))))) (.seq (.seq (.reg [⟨(some 45), none, (.mv (.tmp 5))⟩, ⟨(some 46), none, (.len false (.tmp 45))⟩, ⟨(some 47), none, (.bin .gtr (.tmp 46) (.const (.int .i64 200)))⟩]) (.cond (.tmp 47) (.seq (.reg [⟨(some 2), none, (.mv (.const (.slice none 0 0)))⟩, ⟨(some 3), none, (.mv (.const (.int .i64 0)))⟩, ⟨(some 4), none, (.mv (.const (.int .i64 2)))⟩]) .ret) .skip)) (.seq (.reg [⟨(some 48), none, (.mv (.tmp 5))⟩, ⟨(some 2), none, (.mv (.tmp 48))⟩, ⟨(some 3), none, (.mv (.const (.int .i64 0)))⟩, ⟨(some 4), none, (.mv (.const (.int .i64 0)))⟩]) .ret))))))
theorem k8 : compF Tryd.prog 8 = some ⟨c8, [(.tmp 2), (.tmp 3), (.tmp 4)], 49⟩ := by kernel_rfl
theorem i8 {a0 : AV} {h : AH} {R : AE → Prop} (hw : ∀ n, h.length = n → (∀ e ∈ h, e.lt n = true) → AV.ltL n [a0] = true → AV.bdL [a0] → aw Tryd.prog n c8 (retA [(.tmp 2), (.tmp 3), (.tmp 4)] fun x h' => ∃ z, h' = h ++ z ∧ x.lt n = true ∧ R x) [a0, .any, .any, .any, .any, .any, .any, .any, .any, .any, .any, .any, .any, .any, .any, .any, .any, .any, .any, .any, .any, .any, .any, .any, .any, .any, .any, .any, .any, .any, .any, .any, .any, .any, .any, .any, .any, .any, .any, .any, .any, .any, .any, .any, .any, .any, .any, .any, .any] (h ++ [])) : ACalls Tryd.prog 8 [a0] h fun x h' => h' = h ∧ R x := ACalls.into k8 rfl hw
theorem w8 {a0 : AV} {h : AH} {res : AV} (hw : ∀ n, h.length = n → (∀ e ∈ h, e.lt n = true) → AV.ltL n [a0] = true → AV.bdL [a0] → aw Tryd.prog n c8 (retA [(.tmp 2), (.tmp 3), (.tmp 4)] fun x h' => ∃ z, h' = h ++ z ∧ x.lt n = true ∧ ∃ c, x = .ret c ∧ Wk c res) [a0, .any, .any, .any, .any, .any, .any, .any, .any, .any, .any, .any, .any, .any, .any, .any, .any, .any, .any, .any, .any, .any, .any, .any, .any, .any, .any, .any, .any, .any, .any, .any, .any, .any, .any, .any, .any, .any, .any, .any, .any, .any, .any, .any, .any, .any, .any, .any, .any] (h ++ [])) : ACalls Tryd.prog 8 [a0] h fun x h' => h' = h ∧ x = .ret res := ACalls.weak (ACalls.into k8 rfl hw)
theorem n8 {a0 : AV} {h : AH} {R : AE → AH → Prop} (hw : ∀ n, h.length = n → (∀ e ∈ h, e.lt n = true) → AV.ltL n [a0] = true → AV.bdL [a0] → aw Tryd.prog n c8 (retA [(.tmp 2), (.tmp 3), (.tmp 4)] R) [a0, .any, .any, .any, .any, .any, .any, .any, .any, .any, .any, .any, .any, .any, .any, .any, .any, .any, .any, .any, .any, .any, .any, .any, .any, .any, .any, .any, .any, .any, .any, .any, .any, .any, .any, .any, .any, .any, .any, .any, .any, .any, .any, .any, .any, .any, .any, .any, .any] (h ++ [])) : ACalls Tryd.prog 8 [a0] h R := ACalls.intoN k8 rfl hw
theorem j8 {a0 : AV} {h : AH} {R : AE → AH → Prop} (hw : ∀ n, h.length = n → (∀ e ∈ h, e.lt n = true) → AV.ltL n [a0] = true → AV.bdL [a0] → aw Tryd.prog n c8 (retA [(.tmp 2), (.tmp 3), (.tmp 4)] fun x h' => ∃ y z, h' = y ++ z ∧ y.length = n ∧ (∀ e ∈ y, e.lt n = true) ∧ x.lt n = true ∧ R x y) [a0, .any, .any, .any, .any, .any, .any, .any, .any, .any, .any, .any, .any, .any, .any, .any, .any, .any, .any, .any, .any, .any, .any, .any, .any, .any, .any, .any, .any, .any, .any, .any, .any, .any, .any, .any, .any, .any, .any, .any, .any, .any, .any, .any, .any, .any, .any, .any, .any] (h ++ [])) : ACalls Tryd.prog 8 [a0] h R := ACalls.intoG k8 rfl hw
theorem repL_str {w : World} {g : Gh} {l : List ByteArray} {vs : List Value} : RepL w g (rows strC l) vs ↔ vs = l.map Value.string := repL_v Value.string
theorem cutC_mem (x : UInt8) : ∀ {l y : Bs}, y ∈ cutC x l → y.length ≤ l.length
  | [], y, h => by simp [cutC] at h; subst h; exact Nat.le_refl _
  | c :: l, y, h => by
    unfold cutC at h
    split at h
    · rcases List.mem_cons.1 h with rfl | h
      · simp
      · have := cutC_mem x h; simp; omega
    · split at h
      · rename_i he; exact absurd he (cutC_ne x l)
      · rename_i z zs he
        rcases List.mem_cons.1 h with rfl | h
        · have := cutC_mem x (l := l) (y := z) (by rw [he]; simp); simp; omega
        · have := cutC_mem x (l := l) (y := y) (by rw [he]; simp [h]); simp; omega
theorem cutC_len (x : UInt8) : ∀ l : Bs, (cutC x l).length ≤ l.length + 1
  | [] => by simp [cutC]
  | c :: l => by
    have := cutC_len x l
    unfold cutC
    split
    · simp; omega
    · split
      · simp
      · rename_i he; rw [he] at this; simp at this ⊢; omega
theorem strsplit_a {s : ByteArray} {x : UInt8} {h : AH} (hz : s.size ≤ 8000) : ACalls Tryd.prog 13 [sv s, sv (bA [x])] h fun r h' => h' = h ∧ r = .ret (.sl (cutC x (aB s)).length 1 false (rows strC ((cutC x (aB s)).map bA))) := by
  have hcl := cutC_len x (aB s)
  rw [aB_len] at hcl
  refine ACalls.of_newrow (by kernel_rfl) (by rw [str_len, List.length_map]) (fun w g w' g' us h => repL_str.2 (repL_str.1 h)) fun w g vs hs ha => ?_
  simp only [RepL, Rep] at ha
  obtain ⟨u1, us1, e1, rfl, u2, us2, rfl, rfl, rfl⟩ := ha
  obtain rfl : vs = #[.string s, .string (bA [x])] := by cases vs; simp_all
  obtain ⟨m, hm⟩ := hs.glob.w.maxLen
  refine (Tryd.strings_Split s (bA [x]) m w (by omega) hm (Nat.le_refl _)).mono ?_
  rintro e w' ⟨rfl, rfl⟩
  have hcb := countB_one x s
  refine ⟨w.heap.size, _, _, _, _, by rw [hcb], Nat.le_refl _, by unfold maxLen; omega, Nat.le_refl _, heap_alloc_new w _, (Below.refl _ w).alloc (Nat.le_refl _) _, ?_⟩
  rw [str_len, List.length_map, splitB_one, Nat.mul_one, ← hcb]
  refine repL_str.2 ?_
  rw [List.take_of_length_le]
  rw [List.length_map, List.length_map, hcb]; exact Nat.le_refl _
abbrev Ln := Int × Bool × List ByteArray
abbrev lnC (x : Ln) : List AV := [iv x.1, bv x.2.1, .sl x.2.2.length 1 false (rows strC x.2.2)]
theorem ln_lt {n : Nat} (l : List Ln) : AV.ltL n (rows lnC l) = true := rows_lt (fun n x => by simp [AV.ltL, AV.lt, str_lt]) l
theorem ln_len1 : ∀ x, (lnC x).length = 3 := fun _ => rfl
theorem ln_len (l : List Ln) : (rows lnC l).length = l.length * 3 := rows_len ln_len1 l
theorem ln_leaf (l : List Ln) : (rows lnC l).all leaf = true := rows_leaf (fun _ => rfl) l
/-- the lines of a text: of those left, numbered from n on; what is wrong: in which, what -/
def linesL : Int → List Bs → List Ln → List Ln × Int × Int
  | _, [], acc => (acc, 0, 0)
  | n, x :: xs, acc => if (lineL x).2 ≠ 0 then ([], n, (lineL x).2) else linesL (n + 1) xs (if (lineL x).1 = [] then acc else acc ++ [(n, blkN (headN x), (lineL x).1)])
def splitL (s : ByteArray) : List Ln × Int × Int :=
  if 8000 < s.size then ([], 0, 2) else
    if (linesL 1 (cutC 10 (aB s)) []).2.2 ≠ 0 then linesL 1 (cutC 10 (aB s)) [] else if 200 < (linesL 1 (cutC 10 (aB s)) []).1.length then ([], 0, 2) else linesL 1 (cutC 10 (aB s)) []
theorem lineL_ne {x : Bs} (h : (lineL x).1 ≠ []) : 0 < x.length := by
  cases x with
  | nil => exact absurd rfl h
  | cons c l => simp
set_option maxHeartbeats 1000000 in
theorem lnSplit_a {s : ByteArray} {h : AH} : ACalls Tryd.prog 8 [sv s] h fun x h' => h' = h ∧ x = .ret (.tup [.sl (splitL s).1.length 3 false (rows lnC (splitL s).1), iv (splitL s).2.1, iv (splitL s).2.2]) := by
  refine w8 ?_
  intro N hn hlt hlA hbd
  try simp only [AV.bdL, AV.bd, and_true, true_and] at hbd
  refine w_seq ?_
  refine w_reg ?_
  refine s_val rfl (v_mv lkn) pt2 ?_
  refine s_val rfl (v_mv lki) pt3 ?_
  refine s_val rfl (v_mv lki) pt4 ?_
  refine s_nil ?_
  refine n_seq ?_
  refine w_seq ?_
  refine w_seq ?_
  refine w_reg ?_
  refine s_val rfl (v_mv lk0) pt10 ?_
  refine s_val rfl (v_lenS lk10) pt11 ?_
  refine s_val rfl (v_gtr lk11 lki) pt12 ?_
  refine s_nil ?_
  refine n_seq ?_
  first | refine w_cond lk12 (fun hc1 => ?_) (fun hc1 => ?_) | refine w_condB lk12 (fun hc1 => ?_) (fun hc1 => ?_)
  · skip
    have hS : splitL s = ([], 0, 2) := if_pos (by omega)
    refine w_seq ?_
    refine w_reg ?_
    refine s_val rfl (v_mv lkn) pt2 ?_
    refine s_val rfl (v_mv lki) pt3 ?_
    refine s_val rfl (v_mv lki) pt4 ?_
    refine s_nil ?_
    refine n_seq ?_
    refine w_rets ?_
    refine r_thn ?_
    refine w_ret (rsn (rm1 (rr_t gt2) (rm1 (rr_t gt3) (rm1 (rr_t gt4) rm0)))) ?_
    refine rtw (by first | rfl | (simp only [AV.lt, AV.ltL, Ent.lt, List.all_cons, List.all_nil, Bool.and_true, Bool.and_self, decide_true, str_lt, ln_lt]; done) | (simp [AV.lt, AV.ltL, Ent.lt, str_lt, ln_lt, *]; done) | (simp [AV.lt, AV.ltL, Ent.lt, str_lt, ln_lt, *]; omega)) ?_
    rw [hS]; exact Wk.tup (wkw Wk.nilF (wk1 rfl (wk1 rfl wk0)))
  · skip
    have hz : s.size ≤ 8000 := by omega
    have hcl := cutC_len 10 (aB s)
    rw [aB_len] at hcl
    obtain ⟨L, hL⟩ : ∃ L, L = cutC 10 (aB s) := ⟨_, rfl⟩
    have hS : splitL s = if (linesL 1 L []).2.2 ≠ 0 then linesL 1 L [] else if 200 < (linesL 1 L []).1.length then ([], 0, 2) else linesL 1 L [] := by rw [hL]; exact if_neg (by omega)
    have hmem : ∀ y ∈ L, y.length ≤ 8000 := fun y hy => Nat.le_trans (cutC_mem 10 (hL ▸ hy)) hz
    rw [← hL] at hcl
    refine w_skip ?_
    refine n_seq ?_
    refine w_seq ?_
    refine w_reg ?_
    refine s_val rfl (v_mv lkn) pt5 ?_
    refine s_nil ?_
    refine n_seqw (ALe.own0' (st' := 3) (ty := 29) gt5 (hl0 hn) pt5 ha0) ?_
    refine w_seq ?_
    refine w_seq ?_
    refine w_reg ?_
    refine s_val rfl (v_mv lk0) pt13 ?_
    refine s_callp (mp1 lk13 (mp1 lks mp0)) (strsplit_a (x := 10) hz) pt14 ?_
    rw [← hL]
    refine s_val rfl (v_lenL lk14) pt15 ?_
    refine s_val rfl (v_mv lki) pt16 ?_
    refine s_nil ?_
    refine n_seq ?_
    refine w_block ?_
    refine w_loop (ι := Nat × List Ln × Nat) (fun (x_ : Nat × List Ln × Nat) => match x_ with | ⟨k, acc, v⟩ => [(5, .own (N + 0) v acc.length), (16, iv (k : Int)), (2, .any), (3, .any), (4, .any), (6, .any), (7, .any), (8, .any), (9, .any), (17, .any), (18, .any), (19, .any), (20, .any), (21, .any), (22, .any), (23, .any), (24, .any), (25, .any), (26, .any), (27, .any), (28, .any), (29, .any), (30, .any), (31, .any), (32, .any), (33, .any), (34, .any), (35, .any), (36, .any), (37, .any), (38, .any), (39, .any), (40, .any), (41, .any), (42, .any), (43, .any), (44, .any)]) (fun (x_ : Nat × List Ln × Nat) => match x_ with | ⟨k, acc, v⟩ => [(0, .mk v 29 3 (rows lnC acc))]) (fun (x_ : Nat × List Ln × Nat) => match x_ with | ⟨k, acc, v⟩ => k ≤ L.length ∧ acc.length ≤ k ∧ linesL 1 L [] = linesL ((k : Int) + 1) (L.drop k) acc) (fun (x_ : Nat × List Ln × Nat) => match x_ with | ⟨k, acc, v⟩ => L.length - k) (⟨0, [], 0⟩) (by exact ⟨Nat.zero_le _, Nat.le_refl _, rfl⟩) (by try simp only [setsT, setsE, List.set_cons_zero, List.set_cons_succ]; exact ALe.same (wk1 rfl (wk1 rfl (wka (wka (wka (wk1 (by first | rfl | exact ivx (by omega) | (simp; done)) (wka (wka (wka (wka (wk1 rfl (wk1 rfl (wk1 rfl (wk1 rfl (wk1 rfl (wk1 rfl (wk1 (by first | rfl | exact ivx (by omega) | (simp; done)) (wka (wka (wka (wka (wka (wka (wka (wka (wka (wka (wka (wka (wka (wka (wka (wka (wka (wka (wka (wka (wka (wka (wka (wka (wka (wka (wka (wka (wk1 rfl (wk1 rfl (wk1 rfl (wk1 rfl wk0))))))))))))))))))))))))))))))))))))))))))))))))) rfl) ?_
    rintro ⟨k, acc, v⟩ hi1
    try simp only [setsT, setsE, List.set_cons_zero, List.set_cons_succ]
    obtain ⟨hk1, hk2, hk3⟩ := hi1
    refine w_seq ?_
    refine w_reg ?_
    refine s_val rfl (v_lss lk16 lk15) pt17 ?_
    refine s_nil ?_
    refine n_seq ?_
    refine w_seq ?_
    first | refine w_cond lk17 (fun hc2 => ?_) (fun hc2 => ?_) | refine w_condB lk17 (fun hc2 => ?_) (fun hc2 => ?_)
    · skip
      have hk : k < L.length := by omega
      have hsz := hmem _ (List.getElem_mem hk)
      rw [List.drop_eq_getElem_cons hk, linesL] at hk3
      have hgm : (L.map bA)[k]'(by simpa using hk) = bA L[k] := List.getElem_map _
      refine w_skip ?_
      refine n_seq ?_
      refine w_seq ?_
      refine w_block ?_
      refine w_seq ?_
      refine w_reg ?_
      refine s_val rfl (v_mv lk16) pt18 ?_
      refine s_val rfl (v_iaR (l := L.map bA) (k := k) lk14 lk16 str_len1 (Nat.le_of_ble_eq_true rfl) (by first | rfl | omega) (by simpa using hk) (by simp) rfl) pt19 ?_
      refine s_val rfl (v_loadr lk19 gt0) pt20 ?_
      rw [hgm]
      refine s_val rfl (v_mv lk18) pt6 ?_
      refine s_val rfl (v_mv lk20) pt7 ?_
      refine s_nil ?_
      refine n_seq ?_
      refine w_seq ?_
      refine w_reg ?_
      refine s_val rfl (v_mv lk7) pt22 ?_
      refine s_callp (mp1 lk22 mp0) (lnsplit_a (s := bA L[k]) hsz) pt23 ?_
      refine s_val rfl (v_mv lk23) pt21 ?_
      rw [aB_bA]
      refine s_val rfl (v_ext lk21 gt0) pt24 ?_
      refine s_val rfl (v_ext lk21 gt1) pt25 ?_
      refine s_val rfl (v_mv lk24) pt8 ?_
      refine s_val rfl (v_mv lk25) pt9 ?_
      refine s_nil ?_
      refine n_seq ?_
      refine w_seq ?_
      refine w_seq ?_
      refine w_reg ?_
      refine s_val rfl (v_mv lk9) pt26 ?_
      refine s_val rfl (v_neq lk26 lki) pt27 ?_
      refine s_nil ?_
      refine n_seq ?_
      first | refine w_cond lk27 (fun hc3 => ?_) (fun hc3 => ?_) | refine w_condB lk27 (fun hc3 => ?_) (fun hc3 => ?_)
      · skip
        have hc3' : (lineL L[k]).2 ≠ 0 := hc3
        rw [if_pos hc3'] at hk3
        rw [hk3, if_pos hc3'] at hS
        refine w_seq ?_
        refine w_reg ?_
        refine s_val rfl (v_mv lk6) pt28 ?_
        refine s_val rfl (v_add lk28 lki (by omega) (by omega)) pt29 ?_
        refine s_val rfl (v_mv lk9) pt30 ?_
        refine s_val rfl (v_mv lkn) pt2 ?_
        refine s_val rfl (v_mv lk29) pt3 ?_
        refine s_val rfl (v_mv lk30) pt4 ?_
        refine s_nil ?_
        refine n_seq ?_
        refine w_rets ?_
        refine r_thn ?_
        refine r_blk ?_
        refine r_thn ?_
        refine r_thn ?_
        refine r_blk ?_
        refine r_thn ?_
        refine w_ret (rsn (rm1 (rr_t gt2) (rm1 (rr_t gt3) (rm1 (rr_t gt4) rm0)))) ?_
        refine rtw (by first | rfl | (simp only [AV.lt, AV.ltL, Ent.lt, List.all_cons, List.all_nil, Bool.and_true, Bool.and_self, decide_true, str_lt, ln_lt]; done) | (simp [AV.lt, AV.ltL, Ent.lt, str_lt, ln_lt, *]; done) | (simp [AV.lt, AV.ltL, Ent.lt, str_lt, ln_lt, *]; omega)) ?_
        rw [hS]; exact Wk.tup (wkw Wk.nilF (wk1 rfl (wk1 rfl wk0)))
      · skip
        rw [if_neg hc3] at hk3
        refine w_skip ?_
        refine n_seq ?_
        refine w_seq ?_
        refine w_reg ?_
        refine s_val rfl (v_mv lk8) pt31 ?_
        refine s_val rfl (v_lenL lk31) pt32 ?_
        refine s_val rfl (v_gtr lk32 lki) pt33 ?_
        refine s_nil ?_
        refine n_seq ?_
        first | refine w_cond lk33 (fun hc4 => ?_) (fun hc4 => ?_) | refine w_condB lk33 (fun hc4 => ?_) (fun hc4 => ?_)
        · skip
          have hne : (lineL L[k]).1 ≠ [] := fun e => by rw [e] at hc4; simp at hc4
          have hp := lineL_ne hne
          rw [if_neg hne] at hk3
          refine w_reg ?_
          refine s_val rfl (v_mv lk5) pt34 ?_
          refine s_val rfl (v_mv lk6) pt35 ?_
          refine s_val rfl (v_add lk35 lki (by omega) (by omega)) pt36 ?_
          refine s_val rfl (v_mv lk7) pt37 ?_
          refine s_val rfl (v_ix lk37 lki (by first | omega | (rw [bA_size]; omega)) (by first | omega | (rw [bA_size]; omega))) pt38 ?_
          refine s_callp (mp1 lk38 mp0) (lnblank_a) pt39 ?_
          refine s_val rfl (v_mv lk8) pt40 ?_
          refine s_val rfl (v_build (LineC_Split_46 (cvl lk36 rfl) rfl (cvl lk39 rfl) rfl (cvl lk40 rfl) rfl)) pt41 ?_
          refine s_eff rfl rfl (e_lit (LineC_Split_47 (cvl lk41 rfl) rfl) (hl1 hn) ha1) pt42 ?_
          refine s_eff rfl rfl (e_app (sc_own lk42 (hga hn rfl) rfl LineC_tk_3 (Nat.le_of_ble_eq_true rfl)) lk34 (hga hn rfl) (ln_len _) (by omega) rfl (hs0 hn)) pt43 ?_
          refine s_val rfl (v_mv lk43) pt5 ?_
          refine s_nil ?_
          refine n_blk ?_
          refine n_seq ?_
          refine w_reg ?_
          refine s_val rfl (v_add lk16 lki (by omega) (by omega)) pt44 ?_
          refine s_val rfl (v_mv lk44) pt16 ?_
          refine s_nil ?_
          refine n_thn ?_
          refine LoopTo.mk (⟨k + 1, acc ++ [((k : Int) + 1, blkN (headN L[k]), (lineL L[k]).1)], v + 1⟩) (by omega) (by (try dsimp only); exact ⟨by omega, by simp; omega, by rw [hk3]; congr 1⟩) (by (try dsimp only); (try simp only [setsT, setsE, List.set_cons_zero, List.set_cons_succ]); exact ALe.back (wk1 rfl (wk1 rfl (wka (wka (wka (wk1 (by first | rfl | exact ivx (by omega) | (simp; done)) (wka (wka (wka (wka (wk1 rfl (wk1 rfl (wk1 rfl (wk1 rfl (wk1 rfl (wk1 rfl (wk1 (by first | rfl | exact ivx (by omega) | (simp; done)) (wka (wka (wka (wka (wka (wka (wka (wka (wka (wka (wka (wka (wka (wka (wka (wka (wka (wka (wka (wka (wka (wka (wka (wka (wka (wka (wka (wka (wk1 rfl (wk1 rfl (wk1 rfl (wk1 rfl wk0))))))))))))))))))))))))))))))))))))))))))))))))) (by simp only [rows_app, rows_one, lnC]; rw [show headN L[k] = ((byteAt (bA L[k]) 0).toNat : Int) from headN_at (s := bA L[k]) (k := 0) hp]; rfl) (k := N + 1) (by simp only [List.length_cons, List.length_nil, hn]) (by omega) (by first | rfl | (simp only [AV.lt, AV.ltL, Ent.lt, List.all_cons, List.all_nil, Bool.and_true, Bool.and_self, decide_true, str_lt, ln_lt]; done) | (simp [AV.lt, AV.ltL, Ent.lt, str_lt, ln_lt, *]; done) | (simp [AV.lt, AV.ltL, Ent.lt, str_lt, ln_lt, *]; omega)) (ltw (by omega) hlt) (by first | rfl | (simp only [AV.lt, AV.ltL, Ent.lt, List.all_cons, List.all_nil, Bool.and_true, Bool.and_self, decide_true, str_lt, ln_lt]; done) | (simp [AV.lt, AV.ltL, Ent.lt, str_lt, ln_lt, *]; done) | (simp [AV.lt, AV.ltL, Ent.lt, str_lt, ln_lt, *]; omega)))
        · skip
          have hne : (lineL L[k]).1 = [] := List.eq_nil_of_length_eq_zero (by omega)
          rw [if_pos hne] at hk3
          refine w_skip ?_
          refine n_blk ?_
          refine n_seq ?_
          refine w_reg ?_
          refine s_val rfl (v_add lk16 lki (by omega) (by omega)) pt44 ?_
          refine s_val rfl (v_mv lk44) pt16 ?_
          refine s_nil ?_
          refine n_thn ?_
          refine LoopTo.mk (⟨k + 1, acc, v⟩) (by omega) (by (try dsimp only); exact ⟨by omega, by omega, by rw [hk3]; congr 1⟩) (by (try dsimp only); (try simp only [setsT, setsE, List.set_cons_zero, List.set_cons_succ]); exact ALe.same (wk1 rfl (wk1 rfl (wka (wka (wka (wk1 (by first | rfl | exact ivx (by omega) | (simp; done)) (wka (wka (wka (wka (wk1 rfl (wk1 rfl (wk1 rfl (wk1 rfl (wk1 rfl (wk1 rfl (wk1 (by first | rfl | exact ivx (by omega) | (simp; done)) (wka (wka (wka (wka (wka (wka (wka (wka (wka (wka (wka (wka (wka (wka (wka (wka (wka (wka (wka (wka (wka (wka (wka (wka (wka (wka (wka (wka (wk1 rfl (wk1 rfl (wk1 rfl (wk1 rfl wk0))))))))))))))))))))))))))))))))))))))))))))))))) rfl)
    · skip
      have hkl : k = L.length := by omega
      rw [List.drop_of_length_le (by omega), linesL] at hk3
      rw [hk3, if_neg (by simp)] at hS
      refine w_exit ?_
      refine x_thn ?_
      refine x_thn ?_
      refine x_blk ?_
      refine n_seq ?_
      refine w_seq ?_
      refine w_seq ?_
      refine w_reg ?_
      refine s_val rfl (v_mv lk5) pt45 ?_
      refine s_val rfl (v_lenO lk45) pt46 ?_
      refine s_val rfl (v_gtr lk46 lki) pt47 ?_
      refine s_nil ?_
      refine n_seq ?_
      first | refine w_cond lk47 (fun hc5 => ?_) (fun hc5 => ?_) | refine w_condB lk47 (fun hc5 => ?_) (fun hc5 => ?_)
      · skip
        rw [if_pos (show 200 < acc.length by omega)] at hS
        refine w_seq ?_
        refine w_reg ?_
        refine s_val rfl (v_mv lkn) pt2 ?_
        refine s_val rfl (v_mv lki) pt3 ?_
        refine s_val rfl (v_mv lki) pt4 ?_
        refine s_nil ?_
        refine n_seq ?_
        refine w_rets ?_
        refine r_thn ?_
        refine w_ret (rsn (rm1 (rr_t gt2) (rm1 (rr_t gt3) (rm1 (rr_t gt4) rm0)))) ?_
        refine rtw (by first | rfl | (simp only [AV.lt, AV.ltL, Ent.lt, List.all_cons, List.all_nil, Bool.and_true, Bool.and_self, decide_true, str_lt, ln_lt]; done) | (simp [AV.lt, AV.ltL, Ent.lt, str_lt, ln_lt, *]; done) | (simp [AV.lt, AV.ltL, Ent.lt, str_lt, ln_lt, *]; omega)) ?_
        rw [hS]; exact Wk.tup (wkw Wk.nilF (wk1 rfl (wk1 rfl wk0)))
      · skip
        rw [if_neg (show ¬ 200 < acc.length by omega)] at hS
        refine w_skip ?_
        refine n_seq ?_
        refine w_seq ?_
        refine w_reg ?_
        refine s_val rfl (v_mv lk5) pt48 ?_
        refine s_val rfl (v_mv lk48) pt2 ?_
        refine s_val rfl (v_mv lki) pt3 ?_
        refine s_val rfl (v_mv lki) pt4 ?_
        refine s_nil ?_
        skip
        refine n_seqw (ALe.iceR (hga hn rfl) gt2 (List.take_of_length_le (by rw [ln_len]; exact Nat.le_refl _)) (by rw [ln_len]; exact Nat.le_refl _) pt2 (hs0 hn)) ?_
        refine w_rets ?_
        refine w_ret (rsn (rm1 (rr_t gt2) (rm1 (rr_t gt3) (rm1 (rr_t gt4) rm0)))) ?_
        refine rtw (by first | rfl | (simp only [AV.lt, AV.ltL, Ent.lt, List.all_cons, List.all_nil, Bool.and_true, Bool.and_self, decide_true, str_lt, ln_lt]; done) | (simp [AV.lt, AV.ltL, Ent.lt, str_lt, ln_lt, *]; done) | (simp [AV.lt, AV.ltL, Ent.lt, str_lt, ln_lt, *]; omega)) ?_
        rw [hS]; exact Wk.refl _
end Go.Proofs.YtgjchdhdopgkkaaDoor
