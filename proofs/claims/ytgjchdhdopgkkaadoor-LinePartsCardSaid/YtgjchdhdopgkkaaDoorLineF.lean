/-
  Contract on plain data: the reference's joining of lines. Condition: no field is longer than a text may be.
-/
import Derived.Test.YtgjchdhdopgkkaaDoorLineE
import Derived.Test.YtgjchdhdopgkkaaDoorLineS
set_option linter.unusedVariables false
set_option linter.unusedSimpArgs false
set_option maxRecDepth 100000
namespace Go.Proofs.YtgjchdhdopgkkaaDoor
open Go.Ab Go.RowKit
/-- datelineref.JoinOf -/
def c12 : AC := (.seq (.reg [⟨(some 2), none, (.mv (.const (.string ⟨#[]⟩)))⟩, ⟨(some 3), none, (.mv (.const (.int .i64 0)))⟩]) (.seq (.seq (.reg [⟨(some 10), none, (.mv (.tmp 0))⟩, ⟨(some 11), none, (.len false (.tmp 10))⟩, ⟨(some 12), none, (.bin .gtr (.tmp 11) (.const (.int .i64 200)))⟩]) (.cond (.tmp 12) (.seq (.reg [⟨(some 2), none, (.mv (.const (.string ⟨#[]⟩)))⟩, ⟨(some 3), none, (.mv (.const (.int .i64 2)))⟩]) .ret) .skip)) (.seq (.reg [⟨(some 4), none, (.mv (.const (.string ⟨#[]⟩)))⟩]) (.seq (.seq (.reg [⟨(some 5), none, (.mv (.const (.int .i64 0)))⟩]) (.block 0 (.loop (.seq (.seq (.reg [⟨(some 13), none, (.mv (.tmp 5))⟩, ⟨(some 14), none, (.mv (.tmp 0))⟩, ⟨(some 15), none, (.len false (.tmp 14))⟩, ⟨(some 16), none, (.bin .lss (.tmp 13) (.tmp 15))⟩]) (.cond (.tmp 16) .skip (.exit 0))) (.seq (.block 1 (.seq (.seq (.reg [⟨(some 19), none, (.mv (.tmp 0))⟩, ⟨(some 20), none, (.mv (.tmp 5))⟩, ⟨(some 21), none, (.ia 3 (.tmp 19) (.tmp 20))⟩, ⟨(some 22), none, (.fa 2 (.tmp 21))⟩, ⟨(some 23), none, (.load false 1 (.tmp 22))⟩, ⟨(some 24), none, (.len false (.tmp 23))⟩, ⟨(some 25), none, (.bin .eql (.tmp 24) (.const (.int .i64 0)))⟩]) (.cond (.tmp 25) (.seq (.reg [⟨(some 2), none, (.mv (.const (.string ⟨#[]⟩)))⟩, ⟨(some 3), none, (.mv (.const (.int .i64 1)))⟩]) .ret) .skip)) (.seq (.seq (.reg [⟨(some 26), none, (.mv (.tmp 0))⟩, ⟨(some 27), none, (.mv (.tmp 5))⟩, ⟨(some 28), none, (.ia 3 (.tmp 26) (.tmp 27))⟩, ⟨(some 29), none, (.fa 2 (.tmp 28))⟩, ⟨(some 30), none, (.load false 1 (.tmp 29))⟩, ⟨(some 31), none, (.len false (.tmp 30))⟩, ⟨(some 32), none, (.bin .gtr (.tmp 31) (.const (.int .i64 12)))⟩]) (.cond (.tmp 32) (.seq (.reg [⟨(some 2), none, (.mv (.const (.string ⟨#[]⟩)))⟩, ⟨(some 3), none, (.mv (.const (.int .i64 2)))⟩]) .ret) .skip)) (.seq (.seq (.reg [⟨(some 33), none, (.mv (.tmp 0))⟩, ⟨(some 34), none, (.mv (.tmp 5))⟩, ⟨(some 35), none, (.ia 3 (.tmp 33) (.tmp 34))⟩, ⟨(some 36), none, (.fa 1 (.tmp 35))⟩, ⟨(some 37), none, (.load false 1 (.tmp 36))⟩]) (.cond (.tmp 37) (.reg [⟨(some 38), none, (.mv (.tmp 4))⟩, ⟨(some 39), none, (.bin .add (.tmp 38) (.const (.string ⟨#[32]⟩)))⟩, ⟨(some 4), none, (.mv (.tmp 39))⟩]) .skip)) (.seq (.seq (.reg [⟨(some 6), none, (.mv (.const (.int .i64 0)))⟩]) (.block 2 (.loop (.seq (.seq (.reg [⟨(some 40), none, (.mv (.tmp 6))⟩, ⟨(some 41), none, (.mv (.tmp 0))⟩, ⟨(some 42), none, (.mv (.tmp 5))⟩, ⟨(some 43), none, (.ia 3 (.tmp 41) (.tmp 42))⟩, ⟨(some 44), none, (.fa 2 (.tmp 43))⟩, ⟨(some 45), none, (.load false 1 (.tmp 44))⟩, ⟨(some 46), none, (.len false (.tmp 45))⟩, ⟨(some 47), none, (.bin .lss (.tmp 40) (.tmp 46))⟩]) (.cond (.tmp 47) .skip (.exit 2))) (.seq (.block 3 (.seq (.reg [⟨(some 50), none, (.mv (.tmp 0))⟩, ⟨(some 51), none, (.mv (.tmp 5))⟩, ⟨(some 52), none, (.ia 3 (.tmp 50) (.tmp 51))⟩, ⟨(some 53), none, (.fa 2 (.tmp 52))⟩, ⟨(some 54), none, (.load false 1 (.tmp 53))⟩, ⟨(some 55), none, (.mv (.tmp 6))⟩, ⟨(some 56), none, (.ia 1 (.tmp 54) (.tmp 55))⟩, ⟨(some 57), none, (.load false 1 (.tmp 56))⟩, ⟨(some 7), none, (.mv (.tmp 57))⟩]) (.seq (.reg [⟨(some 58), none, (.mv (.tmp 7))⟩, ⟨(some 59), none, (.bin .eql (.tmp 58) (.const (.string ⟨#[]⟩)))⟩, ⟨(some 8), none, (.mv (.tmp 59))⟩]) (.seq (.seq (.reg [⟨(some 9), none, (.mv (.const (.int .i64 0)))⟩]) (.block 4 (.loop (.seq (.seq (.reg [⟨(some 60), none, (.mv (.tmp 9))⟩, ⟨(some 61), none, (.mv (.tmp 7))⟩, ⟨(some 62), none, (.len true (.tmp 61))⟩, ⟨(some 63), none, (.bin .lss (.tmp 60) (.tmp 62))⟩]) (.cond (.tmp 63) .skip (.exit 4))) (.seq (.block 5 (.seq (.seq (.reg [⟨(some 66), none, (.mv (.tmp 7))⟩, ⟨(some 67), none, (.mv (.tmp 9))⟩, ⟨(some 68), none, (.ix (.tmp 66) (.tmp 67))⟩, ⟨(some 69), none, (.call (.func 25) [(.tmp 68)])⟩, ⟨(some 70), none, (.un .not (.tmp 69))⟩, ⟨(some 71), none, (.mv (.tmp 70))⟩, ⟨(some 72), (some (71, false)), (.mv (.tmp 7))⟩, ⟨(some 73), (some (71, false)), (.mv (.tmp 9))⟩, ⟨(some 74), (some (71, false)), (.ix (.tmp 72) (.tmp 73))⟩, ⟨(some 75), (some (71, false)), (.bin .eql (.tmp 74) (.const (.int .u8 34)))⟩, ⟨(some 76), none, (.pick (.tmp 71) (.const (.bool true)) (.tmp 75))⟩]) (.cond (.tmp 76) (.seq (.reg [⟨(some 2), none, (.mv (.const (.string ⟨#[]⟩)))⟩, ⟨(some 3), none, (.mv (.const (.int .i64 1)))⟩]) .ret) .skip)) (.reg [⟨(some 77), none, (.mv (.tmp 8))⟩, ⟨(some 78), none, (.mv (.tmp 77))⟩, ⟨(some 79), (some (78, false)), (.mv (.tmp 7))⟩, ⟨(some 80), (some (78, false)), (.mv (.tmp 9))⟩, ⟨(some 81), (some (78, false)), (.ix (.tmp 79) (.tmp 80))⟩, ⟨(some 82), (some (78, false)), (.call (.func 17) [(.tmp 81)])⟩, ⟨(some 83), none, (.pick (.tmp 78) (.const (.bool true)) (.tmp 82))⟩, ⟨(some 84), none, (.mv (.tmp 83))⟩, ⟨(some 85), (some (84, false)), (.mv (.tmp 7))⟩, ⟨(some 86), (some (84, false)), (.mv (.tmp 9))⟩, ⟨(some 87), (some (84, false)), (.ix (.tmp 85) (.tmp 86))⟩, ⟨(some 88), (some (84, false)), (.bin .eql (.tmp 87) (.const (.int .u8 35)))⟩, ⟨(some 89), none, (.pick (.tmp 84) (.const (.bool true)) (.tmp 88))⟩, ⟨(some 8), none, (.mv (.tmp 89))⟩]))) (.reg [⟨(some 64), none, (.mv (.tmp 9))⟩, ⟨(some 65), none, (.bin .add (.tmp 64) (.const (.int .i64 1)))⟩, ⟨(some 9), none, (.mv (.tmp 65))⟩])))))) (.seq (.seq (.reg [⟨(some 90), none, (.mv (.tmp 7))⟩, ⟨(some 91), none, (.len true (.tmp 90))⟩, ⟨(some 92), none, (.bin .gtr (.tmp 91) (.const (.int .i64 24)))⟩]) (.cond (.tmp 92) (.seq (.reg [⟨(some 2), none, (.mv (.const (.string ⟨#[]⟩)))⟩, ⟨(some 3), none, (.mv (.const (.int .i64 2)))⟩]) .ret) .skip)) (.seq (.seq (.reg [⟨(some 93), none, (.mv (.tmp 6))⟩, ⟨(some 94), none, (.bin .gtr (.tmp 93) (.const (.int .i64 0)))⟩]) (.cond (.tmp 94) (.reg [⟨(some 95), none, (.mv (.tmp 4))⟩, ⟨(some 96), none, (.bin .add (.tmp 95) (.const (.string ⟨#[32]⟩)))⟩, ⟨(some 4), none, (.mv (.tmp 96))⟩]) .skip)) (.seq (.seq (.reg [⟨(some 97), none, (.mv (.tmp 8))⟩]) (.cond (.tmp 97) (.reg [⟨(some 98), none, (.mv (.tmp 7))⟩, ⟨(some 99), none, (.bin .add (.const (.string ⟨#[34]⟩)) (.tmp 98))⟩, ⟨(some 100), none, (.bin .add (.tmp 99) (.const (.string ⟨#[34]⟩)))⟩, ⟨(some 7), none, (.mv (.tmp 100))⟩]) .skip)) (.reg [⟨(some 101), none, (.mv (.tmp 4))⟩, ⟨(some 102), none, (.mv (.tmp 7))⟩, ⟨(some 103), none, (.bin .add (.tmp 101) (.tmp 102))⟩, ⟨(some 4), none, (.mv (.tmp 103))⟩])))))))) (.reg [⟨(some 48), none, (.mv (.tmp 6))⟩, ⟨(some 49), none, (.bin .add (.tmp 48) (.const (.int .i64 1)))⟩, ⟨(some 6), none, (.mv (.tmp 49))⟩])))))) (.reg [⟨(some 104), none, (.mv (.tmp 4))⟩, ⟨(some 105), none, (.bin .add (.tmp 104) (.const (.string ⟨#[10]⟩)))⟩, ⟨(some 4), none, (.mv (.tmp 105))⟩])))))) (.reg [⟨(some 17), none, (.mv (.tmp 5))⟩, ⟨(some 18), none, (.bin .add (.tmp 17) (.const (.int .i64 1)))⟩, ⟨(some 5), none, (.mv (.tmp 18))⟩])))))) (.seq (.seq (.reg [⟨(some 106), none, (.mv (.tmp 4))⟩, ⟨(some 107), none, (.len true (.tmp 106))⟩, ⟨(some 108), none, (.bin .gtr (.tmp 107) (.const (.int .i64 8000)))⟩]) (.cond (.tmp 108) (.seq (.reg [⟨(some 2), none, (.mv (.const (.string ⟨#[]⟩)))⟩, ⟨(some 3), none, (.mv (.const (.int .i64 2)))⟩]) .ret) .skip)) (.seq (.reg [⟨(some 109), none, (.mv (.tmp 4))⟩, ⟨(some 2), none, (.mv (.tmp 109))⟩, ⟨(some 3), none, (.mv (.const (.int .i64 0)))⟩]) .ret))))))
theorem k12 : compF Tryd.prog 12 = some ⟨c12, [(.tmp 2), (.tmp 3)], 110⟩ := by kernel_rfl
theorem i12 {a0 : AV} {h : AH} {R : AE → Prop} (hw : ∀ n, h.length = n → (∀ e ∈ h, e.lt n = true) → AV.ltL n [a0] = true → AV.bdL [a0] → aw Tryd.prog n c12 (retA [(.tmp 2), (.tmp 3)] fun x h' => ∃ z, h' = h ++ z ∧ x.lt n = true ∧ R x) [a0, .any, .any, .any, .any, .any, .any, .any, .any, .any, .any, .any, .any, .any, .any, .any, .any, .any, .any, .any, .any, .any, .any, .any, .any, .any, .any, .any, .any, .any, .any, .any, .any, .any, .any, .any, .any, .any, .any, .any, .any, .any, .any, .any, .any, .any, .any, .any, .any, .any, .any, .any, .any, .any, .any, .any, .any, .any, .any, .any, .any, .any, .any, .any, .any, .any, .any, .any, .any, .any, .any, .any, .any, .any, .any, .any, .any, .any, .any, .any, .any, .any, .any, .any, .any, .any, .any, .any, .any, .any, .any, .any, .any, .any, .any, .any, .any, .any, .any, .any, .any, .any, .any, .any, .any, .any, .any, .any, .any, .any] (h ++ [])) : ACalls Tryd.prog 12 [a0] h fun x h' => h' = h ∧ R x := ACalls.into k12 rfl hw
theorem w12 {a0 : AV} {h : AH} {res : AV} (hw : ∀ n, h.length = n → (∀ e ∈ h, e.lt n = true) → AV.ltL n [a0] = true → AV.bdL [a0] → aw Tryd.prog n c12 (retA [(.tmp 2), (.tmp 3)] fun x h' => ∃ z, h' = h ++ z ∧ x.lt n = true ∧ ∃ c, x = .ret c ∧ Wk c res) [a0, .any, .any, .any, .any, .any, .any, .any, .any, .any, .any, .any, .any, .any, .any, .any, .any, .any, .any, .any, .any, .any, .any, .any, .any, .any, .any, .any, .any, .any, .any, .any, .any, .any, .any, .any, .any, .any, .any, .any, .any, .any, .any, .any, .any, .any, .any, .any, .any, .any, .any, .any, .any, .any, .any, .any, .any, .any, .any, .any, .any, .any, .any, .any, .any, .any, .any, .any, .any, .any, .any, .any, .any, .any, .any, .any, .any, .any, .any, .any, .any, .any, .any, .any, .any, .any, .any, .any, .any, .any, .any, .any, .any, .any, .any, .any, .any, .any, .any, .any, .any, .any, .any, .any, .any, .any, .any, .any, .any, .any] (h ++ [])) : ACalls Tryd.prog 12 [a0] h fun x h' => h' = h ∧ x = .ret res := ACalls.weak (ACalls.into k12 rfl hw)
theorem n12 {a0 : AV} {h : AH} {R : AE → AH → Prop} (hw : ∀ n, h.length = n → (∀ e ∈ h, e.lt n = true) → AV.ltL n [a0] = true → AV.bdL [a0] → aw Tryd.prog n c12 (retA [(.tmp 2), (.tmp 3)] R) [a0, .any, .any, .any, .any, .any, .any, .any, .any, .any, .any, .any, .any, .any, .any, .any, .any, .any, .any, .any, .any, .any, .any, .any, .any, .any, .any, .any, .any, .any, .any, .any, .any, .any, .any, .any, .any, .any, .any, .any, .any, .any, .any, .any, .any, .any, .any, .any, .any, .any, .any, .any, .any, .any, .any, .any, .any, .any, .any, .any, .any, .any, .any, .any, .any, .any, .any, .any, .any, .any, .any, .any, .any, .any, .any, .any, .any, .any, .any, .any, .any, .any, .any, .any, .any, .any, .any, .any, .any, .any, .any, .any, .any, .any, .any, .any, .any, .any, .any, .any, .any, .any, .any, .any, .any, .any, .any, .any, .any, .any] (h ++ [])) : ACalls Tryd.prog 12 [a0] h R := ACalls.intoN k12 rfl hw
theorem j12 {a0 : AV} {h : AH} {R : AE → AH → Prop} (hw : ∀ n, h.length = n → (∀ e ∈ h, e.lt n = true) → AV.ltL n [a0] = true → AV.bdL [a0] → aw Tryd.prog n c12 (retA [(.tmp 2), (.tmp 3)] fun x h' => ∃ y z, h' = y ++ z ∧ y.length = n ∧ (∀ e ∈ y, e.lt n = true) ∧ x.lt n = true ∧ R x y) [a0, .any, .any, .any, .any, .any, .any, .any, .any, .any, .any, .any, .any, .any, .any, .any, .any, .any, .any, .any, .any, .any, .any, .any, .any, .any, .any, .any, .any, .any, .any, .any, .any, .any, .any, .any, .any, .any, .any, .any, .any, .any, .any, .any, .any, .any, .any, .any, .any, .any, .any, .any, .any, .any, .any, .any, .any, .any, .any, .any, .any, .any, .any, .any, .any, .any, .any, .any, .any, .any, .any, .any, .any, .any, .any, .any, .any, .any, .any, .any, .any, .any, .any, .any, .any, .any, .any, .any, .any, .any, .any, .any, .any, .any, .any, .any, .any, .any, .any, .any, .any, .any, .any, .any, .any, .any, .any, .any, .any, .any] (h ++ [])) : ACalls Tryd.prog 12 [a0] h R := ACalls.intoG k12 rfl hw
theorem joinS_snoc : ∀ {l : List Bs} {x : Bs}, joinS (l ++ [x]) = if 0 < l.length then joinS l ++ 32 :: x else x
  | [], x => rfl
  | [a], x => rfl
  | a :: b :: l, x => by
    have := joinS_snoc (l := b :: l) (x := x)
    rw [if_pos (by simp)] at this ⊢
    show a ++ 32 :: joinS (b :: l ++ [x]) = (a ++ 32 :: joinS (b :: l)) ++ 32 :: x
    rw [this]; simp
def quoT (f : ByteArray) (n : Nat) : Bool := decide (f.size = 0) || ((aB f).take n).any (fun c => quoN c.toNat)
theorem quoT_succ {f : ByteArray} {n : Nat} (h : n < f.size) : quoT f (n + 1) = (quoT f n || quoN (byteAt f n).toNat) := by
  unfold quoT
  rw [List.take_add, List.any_append, aB_at h]
  simp [Bool.or_assoc]
theorem quoT_end {f : ByteArray} {n : Nat} (h : f.size ≤ n) : quoT f n = quoB f := by
  unfold quoT quoB
  rw [List.take_of_length_le (show (aB f).length ≤ n from h)]
theorem quoT_zero {f : ByteArray} : quoT f 0 = decide (f.size = 0) := by unfold quoT; simp
theorem emp_size {f : ByteArray} : f = ⟨#[]⟩ ↔ f.size = 0 := by
  constructor
  · rintro rfl; rfl
  · intro h
    exact ByteArray.ext (Array.eq_empty_of_size_eq_zero h)
theorem fieldE_end {f : ByteArray} {k : Nat} (h : f.size ≤ k) (ht : ((aB f).take k).any (fun c => badN c.toNat) = false) : fieldE f = if 24 < f.size then 2 else 0 := by
  unfold fieldE
  rw [any_end (p := badN) h ht]; rfl
set_option maxHeartbeats 2000000 in
theorem rjoinOf_a {l : List Ln} {full : Bool} {h : AH} (hok : okLns l) : ACalls Tryd.prog 12 [.sl l.length 3 full (rows lnC l)] h fun x h' => h' = h ∧ x = .ret (.tup [sv (joinV l).1, iv (joinV l).2]) := by
  refine i12 ?_
  intro N hn hlt hlA hbd
  try simp only [AV.bdL, AV.bd, and_true, true_and] at hbd
  refine w_seq ?_
  refine w_reg ?_
  refine s_val rfl (v_mv lks) pt2 ?_
  refine s_val rfl (v_mv lki) pt3 ?_
  refine s_nil ?_
  refine n_seq ?_
  refine w_seq ?_
  refine w_seq ?_
  refine w_reg ?_
  refine s_val rfl (v_mv lk0) pt10 ?_
  refine s_val rfl (v_lenL lk10) pt11 ?_
  refine s_val rfl (v_gtr lk11 lki) pt12 ?_
  refine s_nil ?_
  refine n_seq ?_
  first | refine w_cond lk12 (fun hc1 => ?_) (fun hc1 => ?_) | refine w_condB lk12 (fun hc1 => ?_) (fun hc1 => ?_)
  · skip
    have hV : joinV l = (bA [], 2) := if_pos (by omega)
    refine w_seq ?_
    refine w_reg ?_
    refine s_val rfl (v_mv lks) pt2 ?_
    refine s_val rfl (v_mv lki) pt3 ?_
    refine s_nil ?_
    refine n_seq ?_
    refine w_rets ?_
    refine r_thn ?_
    refine w_ret (rsn (rm1 (rr_t gt2) (rm1 (rr_t gt3) rm0))) ?_
    refine rt (by first | rfl | (simp only [AV.lt, AV.ltL, Ent.lt, List.all_cons, List.all_nil, Bool.and_true, Bool.and_self, decide_true, str_lt, ln_lt]; done) | (simp [AV.lt, AV.ltL, Ent.lt, str_lt, ln_lt, *]; done) | (simp [AV.lt, AV.ltL, Ent.lt, str_lt, ln_lt, *]; omega)) ?_
    rw [hV]; rfl
  · skip
    have hV : joinV l = if joinE l ≠ 0 then (bA [], joinE l) else if 8000 < (joinT l).length then (bA [], 2) else (bA (joinT l), 0) := if_neg (by omega)
    refine w_skip ?_
    refine n_seq ?_
    refine w_seq ?_
    refine w_reg ?_
    refine s_val rfl (v_mv lks) pt4 ?_
    refine s_nil ?_
    refine n_seq ?_
    refine w_seq ?_
    refine w_seq ?_
    refine w_reg ?_
    refine s_val rfl (v_mv lki) pt5 ?_
    refine s_nil ?_
    refine n_seq ?_
    refine w_block ?_
    refine w_loop (ι := Nat × Bs) (fun (x_ : Nat × Bs) => match x_ with | ⟨k, T⟩ => [(4, sv (bA T)), (5, iv (k : Int)), (2, .any), (3, .any), (6, .any), (7, .any), (8, .any), (9, .any), (13, .any), (14, .any), (15, .any), (16, .any), (17, .any), (18, .any), (19, .any), (20, .any), (21, .any), (22, .any), (23, .any), (24, .any), (25, .any), (26, .any), (27, .any), (28, .any), (29, .any), (30, .any), (31, .any), (32, .any), (33, .any), (34, .any), (35, .any), (36, .any), (37, .any), (38, .any), (39, .any), (40, .any), (41, .any), (42, .any), (43, .any), (44, .any), (45, .any), (46, .any), (47, .any), (48, .any), (49, .any), (50, .any), (51, .any), (52, .any), (53, .any), (54, .any), (55, .any), (56, .any), (57, .any), (58, .any), (59, .any), (60, .any), (61, .any), (62, .any), (63, .any), (64, .any), (65, .any), (66, .any), (67, .any), (68, .any), (69, .any), (70, .any), (71, .any), (72, .any), (73, .any), (74, .any), (75, .any), (76, .any), (77, .any), (78, .any), (79, .any), (80, .any), (81, .any), (82, .any), (83, .any), (84, .any), (85, .any), (86, .any), (87, .any), (88, .any), (89, .any), (90, .any), (91, .any), (92, .any), (93, .any), (94, .any), (95, .any), (96, .any), (97, .any), (98, .any), (99, .any), (100, .any), (101, .any), (102, .any), (103, .any), (104, .any), (105, .any)]) (fun (x_ : Nat × Bs) => match x_ with | ⟨k, T⟩ => []) (fun (x_ : Nat × Bs) => match x_ with | ⟨k, T⟩ => k ≤ l.length ∧ joinE l = joinE (l.drop k) ∧ joinT l = T ++ joinT (l.drop k) ∧ T.length ≤ 400 * k) (fun (x_ : Nat × Bs) => match x_ with | ⟨k, T⟩ => l.length - k) (⟨0, []⟩) (by exact ⟨Nat.zero_le _, rfl, rfl, by simp⟩) (by try simp only [setsT, setsE, List.set_cons_zero, List.set_cons_succ]; exact ALe.same (wk1 rfl (wk1 rfl (wka (wka (wk1 (by first | rfl | exact ivx (by omega) | (simp; done)) (wk1 (by first | rfl | exact ivx (by omega) | (simp; done)) (wka (wka (wka (wka (wk1 rfl (wk1 rfl (wk1 rfl (wka (wka (wka (wka (wka (wka (wka (wka (wka (wka (wka (wka (wka (wka (wka (wka (wka (wka (wka (wka (wka (wka (wka (wka (wka (wka (wka (wka (wka (wka (wka (wka (wka (wka (wka (wka (wka (wka (wka (wka (wka (wka (wka (wka (wka (wka (wka (wka (wka (wka (wka (wka (wka (wka (wka (wka (wka (wka (wka (wka (wka (wka (wka (wka (wka (wka (wka (wka (wka (wka (wka (wka (wka (wka (wka (wka (wka (wka (wka (wka (wka (wka (wka (wka (wka (wka (wka (wka (wka (wka (wka (wka (wka (wk1 rfl (wk1 rfl (wk1 rfl (wk1 rfl wk0)))))))))))))))))))))))))))))))))))))))))))))))))))))))))))))))))))))))))))))))))))))))))))))))))))))))))))))) rfl) ?_
    rintro ⟨k, T⟩ hi1
    try simp only [setsT, setsE, List.set_cons_zero, List.set_cons_succ]
    obtain ⟨hk1, hk3, hk4, hk5⟩ := hi1
    refine w_seq ?_
    refine w_seq ?_
    refine w_reg ?_
    refine s_val rfl (v_mv lk5) pt13 ?_
    refine s_val rfl (v_mv lk0) pt14 ?_
    refine s_val rfl (v_lenL lk14) pt15 ?_
    refine s_val rfl (v_lss lk13 lk15) pt16 ?_
    refine s_nil ?_
    refine n_seq ?_
    first | refine w_cond lk16 (fun hc2 => ?_) (fun hc2 => ?_) | refine w_condB lk16 (fun hc2 => ?_) (fun hc2 => ?_)
    · skip
      have hk : k < l.length := by omega
      rw [joinE_at hk] at hk3
      rw [joinT_at hk] at hk4
      have hfs := hok _ (List.getElem_mem hk)
      have hlb : lineB l[k] = (if (l[k]).2.1 = true then [32] else []) ++ (joinS ((l[k]).2.2.map fun f => aB (textB f)) ++ [10]) := rfl
      refine w_skip ?_
      refine n_seq ?_
      refine w_seq ?_
      refine w_block ?_
      refine w_seq ?_
      refine w_seq ?_
      refine w_reg ?_
      refine s_val rfl (v_mv lk0) pt19 ?_
      refine s_val rfl (v_mv lk5) pt20 ?_
      refine s_val rfl (v_iaR lk19 lk20 ln_len1 (Nat.le_of_ble_eq_true rfl) (by first | rfl | omega) (by omega) (by first | rfl | omega) rfl) pt21 ?_
      refine s_val rfl (v_far lk21 dp2) pt22 ?_
      refine s_val rfl (v_loadr lk22 gt0) pt23 ?_
      refine s_val rfl ((by first | exact v_lenL lk23 | exact v_lenO lk23)) pt24 ?_
      refine s_val rfl (v_eql lk24 lki) pt25 ?_
      refine s_nil ?_
      refine n_seq ?_
      first | refine w_cond lk25 (fun hc3 => ?_) (fun hc3 => ?_) | refine w_condB lk25 (fun hc3 => ?_) (fun hc3 => ?_)
      · skip
        have hE : lineE (l[k]).2.2 = 1 := if_pos (by omega)
        rw [hE, if_pos (by decide)] at hk3
        rw [hk3, if_pos (by decide)] at hV
        refine w_seq ?_
        refine w_reg ?_
        refine s_val rfl (v_mv lks) pt2 ?_
        refine s_val rfl (v_mv lki) pt3 ?_
        refine s_nil ?_
        refine n_seq ?_
        refine w_rets ?_
        refine r_thn ?_
        refine r_blk ?_
        refine r_thn ?_
        refine r_thn ?_
        refine r_blk ?_
        refine r_thn ?_
        refine w_ret (rsn (rm1 (rr_t gt2) (rm1 (rr_t gt3) rm0))) ?_
        refine rt (by first | rfl | (simp only [AV.lt, AV.ltL, Ent.lt, List.all_cons, List.all_nil, Bool.and_true, Bool.and_self, decide_true, str_lt, ln_lt]; done) | (simp [AV.lt, AV.ltL, Ent.lt, str_lt, ln_lt, *]; done) | (simp [AV.lt, AV.ltL, Ent.lt, str_lt, ln_lt, *]; omega)) ?_
        rw [hV]; rfl
      · skip
        refine w_skip ?_
        refine n_seq ?_
        refine w_seq ?_
        refine w_seq ?_
        refine w_reg ?_
        refine s_val rfl (v_mv lk0) pt26 ?_
        refine s_val rfl (v_mv lk5) pt27 ?_
        refine s_val rfl (v_iaR lk26 lk27 ln_len1 (Nat.le_of_ble_eq_true rfl) (by first | rfl | omega) (by omega) (by first | rfl | omega) rfl) pt28 ?_
        refine s_val rfl (v_far lk28 dp2) pt29 ?_
        refine s_val rfl (v_loadr lk29 gt0) pt30 ?_
        refine s_val rfl ((by first | exact v_lenL lk30 | exact v_lenO lk30)) pt31 ?_
        refine s_val rfl (v_gtr lk31 lki) pt32 ?_
        refine s_nil ?_
        refine n_seq ?_
        first | refine w_cond lk32 (fun hc4 => ?_) (fun hc4 => ?_) | refine w_condB lk32 (fun hc4 => ?_) (fun hc4 => ?_)
        · skip
          have hE : lineE (l[k]).2.2 = 2 := by rw [lineE, if_neg (by omega), if_pos (by omega)]
          rw [hE, if_pos (by decide)] at hk3
          rw [hk3, if_pos (by decide)] at hV
          refine w_seq ?_
          refine w_reg ?_
          refine s_val rfl (v_mv lks) pt2 ?_
          refine s_val rfl (v_mv lki) pt3 ?_
          refine s_nil ?_
          refine n_seq ?_
          refine w_rets ?_
          refine r_thn ?_
          refine r_blk ?_
          refine r_thn ?_
          refine r_thn ?_
          refine r_blk ?_
          refine r_thn ?_
          refine w_ret (rsn (rm1 (rr_t gt2) (rm1 (rr_t gt3) rm0))) ?_
          refine rt (by first | rfl | (simp only [AV.lt, AV.ltL, Ent.lt, List.all_cons, List.all_nil, Bool.and_true, Bool.and_self, decide_true, str_lt, ln_lt]; done) | (simp [AV.lt, AV.ltL, Ent.lt, str_lt, ln_lt, *]; done) | (simp [AV.lt, AV.ltL, Ent.lt, str_lt, ln_lt, *]; omega)) ?_
          rw [hV]; rfl
        · skip
          have hE : lineE (l[k]).2.2 = firstE (l[k]).2.2 := by rw [lineE, if_neg (by omega), if_neg (by omega)]
          rw [hE] at hk3
          refine w_skip ?_
          refine n_seq ?_
          refine w_seqC (ι := Bs) (fun (T2 : Bs) => [(4, sv (bA T2)), (33, .any), (34, .any), (35, .any), (36, .any), (37, .any), (38, .any), (39, .any)]) (fun (T2 : Bs) => []) (fun (T2 : Bs) => T2 = T ++ (if (l[k]).2.1 = true then [32] else [])) ?_ ?_
          · try simp only [setsT, setsE, List.set_cons_zero, List.set_cons_succ]
            refine w_seq ?_
            refine w_reg ?_
            refine s_val rfl (v_mv lk0) pt33 ?_
            refine s_val rfl (v_mv lk5) pt34 ?_
            refine s_val rfl (v_iaR lk33 lk34 ln_len1 (Nat.le_of_ble_eq_true rfl) (by first | rfl | omega) (by omega) (by first | rfl | omega) rfl) pt35 ?_
            refine s_val rfl (v_far lk35 dp1) pt36 ?_
            refine s_val rfl (v_loadr lk36 gt0) pt37 ?_
            refine s_nil ?_
            refine n_seq ?_
            first | refine w_cond lk37 (fun hc5 => ?_) (fun hc5 => ?_) | refine w_condB lk37 (fun hc5 => ?_) (fun hc5 => ?_)
            · skip
              refine w_reg ?_
              refine s_val rfl (v_mv lk4) pt38 ?_
              refine s_val rfl (v_addS lk38 lks (by first | omega | (rw [bA_size, show (⟨#[32]⟩ : ByteArray).size = 1 from rfl]; omega))) pt39 ?_
              rw [show (⟨#[32]⟩ : ByteArray) = bA [32] from rfl, bA_app]
              refine s_val rfl (v_mv lk39) pt4 ?_
              refine s_nil ?_
              refine n_thn ?_
              exact ⟨T ++ [32], (by rw [if_pos hc5]), (by (try dsimp only); (try simp only [setsT, setsE, List.set_cons_zero, List.set_cons_succ]); exact ALe.same (wk1 rfl (wk1 rfl (wk1 rfl (wk1 rfl (wk1 (by first | rfl | exact ivx (by omega) | (simp; done)) (wk1 rfl (wk1 rfl (wk1 rfl (wk1 rfl (wk1 rfl (wk1 rfl (wk1 rfl (wk1 rfl (wk1 rfl (wk1 rfl (wk1 rfl (wk1 rfl (wk1 rfl (wk1 rfl (wk1 rfl (wk1 rfl (wk1 rfl (wk1 rfl (wk1 rfl (wk1 rfl (wk1 rfl (wk1 rfl (wk1 rfl (wk1 rfl (wk1 rfl (wk1 rfl (wk1 rfl (wk1 rfl (wka (wka (wka (wka (wka (wka (wka (wk1 rfl (wk1 rfl (wk1 rfl (wk1 rfl (wk1 rfl (wk1 rfl (wk1 rfl (wk1 rfl (wk1 rfl (wk1 rfl (wk1 rfl (wk1 rfl (wk1 rfl (wk1 rfl (wk1 rfl (wk1 rfl (wk1 rfl (wk1 rfl (wk1 rfl (wk1 rfl (wk1 rfl (wk1 rfl (wk1 rfl (wk1 rfl (wk1 rfl (wk1 rfl (wk1 rfl (wk1 rfl (wk1 rfl (wk1 rfl (wk1 rfl (wk1 rfl (wk1 rfl (wk1 rfl (wk1 rfl (wk1 rfl (wk1 rfl (wk1 rfl (wk1 rfl (wk1 rfl (wk1 rfl (wk1 rfl (wk1 rfl (wk1 rfl (wk1 rfl (wk1 rfl (wk1 rfl (wk1 rfl (wk1 rfl (wk1 rfl (wk1 rfl (wk1 rfl (wk1 rfl (wk1 rfl (wk1 rfl (wk1 rfl (wk1 rfl (wk1 rfl (wk1 rfl (wk1 rfl (wk1 rfl (wk1 rfl (wk1 rfl (wk1 rfl (wk1 rfl (wk1 rfl (wk1 rfl (wk1 rfl (wk1 rfl (wk1 rfl wk0)))))))))))))))))))))))))))))))))))))))))))))))))))))))))))))))))))))))))))))))))))))))))))))))))))))))))))))) rfl)⟩
            · skip
              refine w_skip ?_
              refine n_thn ?_
              exact ⟨T, (by rw [if_neg (by rw [hc5]; simp), List.append_nil]), (by (try dsimp only); (try simp only [setsT, setsE, List.set_cons_zero, List.set_cons_succ]); exact ALe.same (wk1 rfl (wk1 rfl (wk1 rfl (wk1 rfl (wk1 (by first | rfl | exact ivx (by omega) | (simp; done)) (wk1 rfl (wk1 rfl (wk1 rfl (wk1 rfl (wk1 rfl (wk1 rfl (wk1 rfl (wk1 rfl (wk1 rfl (wk1 rfl (wk1 rfl (wk1 rfl (wk1 rfl (wk1 rfl (wk1 rfl (wk1 rfl (wk1 rfl (wk1 rfl (wk1 rfl (wk1 rfl (wk1 rfl (wk1 rfl (wk1 rfl (wk1 rfl (wk1 rfl (wk1 rfl (wk1 rfl (wk1 rfl (wka (wka (wka (wka (wka (wka (wka (wk1 rfl (wk1 rfl (wk1 rfl (wk1 rfl (wk1 rfl (wk1 rfl (wk1 rfl (wk1 rfl (wk1 rfl (wk1 rfl (wk1 rfl (wk1 rfl (wk1 rfl (wk1 rfl (wk1 rfl (wk1 rfl (wk1 rfl (wk1 rfl (wk1 rfl (wk1 rfl (wk1 rfl (wk1 rfl (wk1 rfl (wk1 rfl (wk1 rfl (wk1 rfl (wk1 rfl (wk1 rfl (wk1 rfl (wk1 rfl (wk1 rfl (wk1 rfl (wk1 rfl (wk1 rfl (wk1 rfl (wk1 rfl (wk1 rfl (wk1 rfl (wk1 rfl (wk1 rfl (wk1 rfl (wk1 rfl (wk1 rfl (wk1 rfl (wk1 rfl (wk1 rfl (wk1 rfl (wk1 rfl (wk1 rfl (wk1 rfl (wk1 rfl (wk1 rfl (wk1 rfl (wk1 rfl (wk1 rfl (wk1 rfl (wk1 rfl (wk1 rfl (wk1 rfl (wk1 rfl (wk1 rfl (wk1 rfl (wk1 rfl (wk1 rfl (wk1 rfl (wk1 rfl (wk1 rfl (wk1 rfl (wk1 rfl (wk1 rfl wk0)))))))))))))))))))))))))))))))))))))))))))))))))))))))))))))))))))))))))))))))))))))))))))))))))))))))))))))) rfl)⟩
          · rintro T2 hq16
            try simp only [setsT, setsE, List.set_cons_zero, List.set_cons_succ]
            have hT2l : T2.length ≤ T.length + 1 := by rw [hq16]; split <;> simp
            refine w_seq ?_
            refine w_seq ?_
            refine w_reg ?_
            refine s_val rfl (v_mv lki) pt6 ?_
            refine s_nil ?_
            refine n_seq ?_
            refine w_block ?_
            refine w_loop (ι := Nat × Bs) (fun (x_ : Nat × Bs) => match x_ with | ⟨j, T3⟩ => [(4, sv (bA T3)), (6, iv (j : Int)), (2, .any), (3, .any), (7, .any), (8, .any), (9, .any), (40, .any), (41, .any), (42, .any), (43, .any), (44, .any), (45, .any), (46, .any), (47, .any), (48, .any), (49, .any), (50, .any), (51, .any), (52, .any), (53, .any), (54, .any), (55, .any), (56, .any), (57, .any), (58, .any), (59, .any), (60, .any), (61, .any), (62, .any), (63, .any), (64, .any), (65, .any), (66, .any), (67, .any), (68, .any), (69, .any), (70, .any), (71, .any), (72, .any), (73, .any), (74, .any), (75, .any), (76, .any), (77, .any), (78, .any), (79, .any), (80, .any), (81, .any), (82, .any), (83, .any), (84, .any), (85, .any), (86, .any), (87, .any), (88, .any), (89, .any), (90, .any), (91, .any), (92, .any), (93, .any), (94, .any), (95, .any), (96, .any), (97, .any), (98, .any), (99, .any), (100, .any), (101, .any), (102, .any), (103, .any)]) (fun (x_ : Nat × Bs) => match x_ with | ⟨j, T3⟩ => []) (fun (x_ : Nat × Bs) => match x_ with | ⟨j, T3⟩ => j ≤ (l[k]).2.2.length ∧ firstE (l[k]).2.2 = firstE ((l[k]).2.2.drop j) ∧ T3 = T2 ++ joinS (((l[k]).2.2.take j).map fun f => aB (textB f)) ∧ T3.length ≤ T2.length + 27 * j) (fun (x_ : Nat × Bs) => match x_ with | ⟨j, T3⟩ => (l[k]).2.2.length - j) (⟨0, T2⟩) (by exact ⟨Nat.zero_le _, rfl, by simp [joinS], by omega⟩) (by try simp only [setsT, setsE, List.set_cons_zero, List.set_cons_succ]; exact ALe.same (wk1 rfl (wk1 rfl (wka (wka (wk1 (by first | rfl | exact ivx (by omega) | (simp; done)) (wk1 rfl (wk1 (by first | rfl | exact ivx (by omega) | (simp; done)) (wka (wka (wka (wk1 rfl (wk1 rfl (wk1 rfl (wk1 rfl (wk1 rfl (wk1 rfl (wk1 rfl (wk1 rfl (wk1 rfl (wk1 rfl (wk1 rfl (wk1 rfl (wk1 rfl (wk1 rfl (wk1 rfl (wk1 rfl (wk1 rfl (wk1 rfl (wk1 rfl (wk1 rfl (wk1 rfl (wk1 rfl (wk1 rfl (wk1 rfl (wk1 rfl (wk1 rfl (wk1 rfl (wk1 rfl (wk1 rfl (wk1 rfl (wka (wka (wka (wka (wka (wka (wka (wka (wka (wka (wka (wka (wka (wka (wka (wka (wka (wka (wka (wka (wka (wka (wka (wka (wka (wka (wka (wka (wka (wka (wka (wka (wka (wka (wka (wka (wka (wka (wka (wka (wka (wka (wka (wka (wka (wka (wka (wka (wka (wka (wka (wka (wka (wka (wka (wka (wka (wka (wka (wka (wka (wka (wka (wka (wk1 rfl (wk1 rfl (wk1 rfl (wk1 rfl (wk1 rfl (wk1 rfl wk0)))))))))))))))))))))))))))))))))))))))))))))))))))))))))))))))))))))))))))))))))))))))))))))))))))))))))))))) rfl) ?_
            rintro ⟨j, T3⟩ hi2
            try simp only [setsT, setsE, List.set_cons_zero, List.set_cons_succ]
            obtain ⟨hj1, hj2, hj3, hj4⟩ := hi2
            refine w_seq ?_
            refine w_seq ?_
            refine w_reg ?_
            refine s_val rfl (v_mv lk6) pt40 ?_
            refine s_val rfl (v_mv lk0) pt41 ?_
            refine s_val rfl (v_mv lk5) pt42 ?_
            refine s_val rfl (v_iaR lk41 lk42 ln_len1 (Nat.le_of_ble_eq_true rfl) (by first | rfl | omega) (by omega) (by first | rfl | omega) rfl) pt43 ?_
            refine s_val rfl (v_far lk43 dp2) pt44 ?_
            refine s_val rfl (v_loadr lk44 gt0) pt45 ?_
            refine s_val rfl ((by first | exact v_lenL lk45 | exact v_lenO lk45)) pt46 ?_
            refine s_val rfl (v_lss lk40 lk46) pt47 ?_
            refine s_nil ?_
            refine n_seq ?_
            first | refine w_cond lk47 (fun hc6 => ?_) (fun hc6 => ?_) | refine w_condB lk47 (fun hc6 => ?_) (fun hc6 => ?_)
            · skip
              have hj : j < (l[k]).2.2.length := by omega
              rw [firstE_at hj] at hj2
              obtain ⟨f, hf⟩ : ∃ f, f = (l[k]).2.2[j] := ⟨_, rfl⟩
              have hfz := hfs _ (List.getElem_mem hj)
              rw [← hf] at hj2 hfz
              have hfz' : f.size ≤ 9223372036854775807 := by simpa [maxLen] using hfz
              refine w_skip ?_
              refine n_seq ?_
              refine w_seq ?_
              refine w_block ?_
              refine w_seq ?_
              refine w_reg ?_
              refine s_val rfl (v_mv lk0) pt50 ?_
              refine s_val rfl (v_mv lk5) pt51 ?_
              refine s_val rfl (v_iaR lk50 lk51 ln_len1 (Nat.le_of_ble_eq_true rfl) (by first | rfl | omega) (by omega) (by first | rfl | omega) rfl) pt52 ?_
              refine s_val rfl (v_far lk52 dp2) pt53 ?_
              refine s_val rfl (v_loadr lk53 gt0) pt54 ?_
              refine s_val rfl (v_mv lk6) pt55 ?_
              refine s_val rfl (v_iaR lk54 lk55 str_len1 (Nat.le_of_ble_eq_true rfl) (by first | rfl | omega) (by omega) (by first | rfl | omega) rfl) pt56 ?_
              refine s_val rfl (v_loadr lk56 gt0) pt57 ?_
              rw [← hf]
              refine s_val rfl (v_mv lk57) pt7 ?_
              refine s_nil ?_
              refine n_seq ?_
              refine w_seq ?_
              refine w_reg ?_
              refine s_val rfl (v_mv lk7) pt58 ?_
              refine s_val rfl (v_eqlS lk58 lks) pt59 ?_
              refine s_val rfl (v_mv lk59) pt8 ?_
              refine s_nil ?_
              refine n_seq ?_
              refine w_seq ?_
              refine w_seq ?_
              refine w_reg ?_
              refine s_val rfl (v_mv lki) pt9 ?_
              refine s_nil ?_
              refine n_seq ?_
              refine w_block ?_
              refine w_loop (ι := Nat) (fun (n : Nat) => [(8, bv (quoT f n)), (9, iv (n : Int)), (2, .any), (3, .any), (60, .any), (61, .any), (62, .any), (63, .any), (64, .any), (65, .any), (66, .any), (67, .any), (68, .any), (69, .any), (70, .any), (71, .any), (72, .any), (73, .any), (74, .any), (75, .any), (76, .any), (77, .any), (78, .any), (79, .any), (80, .any), (81, .any), (82, .any), (83, .any), (84, .any), (85, .any), (86, .any), (87, .any), (88, .any), (89, .any)]) (fun (n : Nat) => []) (fun (n : Nat) => n ≤ f.size ∧ ((aB f).take n).any (fun c => badN c.toNat) = false) (fun (n : Nat) => f.size - n) (0) (by exact ⟨Nat.zero_le _, rfl⟩) (by try simp only [setsT, setsE, List.set_cons_zero, List.set_cons_succ]; exact ALe.same (wk1 rfl (wk1 rfl (wka (wka (wk1 rfl (wk1 rfl (wk1 rfl (wk1 rfl (wk1 (by first | rfl | (rw [quoT_zero]; exact bvx (by first | exact decide_eq_decide.2 emp_size | simp [emp_size]))) (wk1 (by first | rfl | (rw [quoT_zero]; exact bvx (by first | exact decide_eq_decide.2 emp_size | simp [emp_size]))) (wk1 rfl (wk1 rfl (wk1 rfl (wk1 rfl (wk1 rfl (wk1 rfl (wk1 rfl (wk1 rfl (wk1 rfl (wk1 rfl (wk1 rfl (wk1 rfl (wk1 rfl (wk1 rfl (wk1 rfl (wk1 rfl (wk1 rfl (wk1 rfl (wk1 rfl (wk1 rfl (wk1 rfl (wk1 rfl (wk1 rfl (wk1 rfl (wk1 rfl (wk1 rfl (wk1 rfl (wk1 rfl (wk1 rfl (wk1 rfl (wk1 rfl (wk1 rfl (wk1 rfl (wk1 rfl (wk1 rfl (wk1 rfl (wk1 rfl (wk1 rfl (wk1 rfl (wk1 rfl (wk1 rfl (wk1 rfl (wk1 rfl (wk1 rfl (wk1 rfl (wk1 rfl (wk1 rfl (wk1 rfl (wk1 rfl (wk1 rfl (wka (wka (wka (wka (wka (wka (wka (wka (wka (wka (wka (wka (wka (wka (wka (wka (wka (wka (wka (wka (wka (wka (wka (wka (wka (wka (wka (wka (wka (wka (wk1 rfl (wk1 rfl (wk1 rfl (wk1 rfl (wk1 rfl (wk1 rfl (wk1 rfl (wk1 rfl (wk1 rfl (wk1 rfl (wk1 rfl (wk1 rfl (wk1 rfl (wk1 rfl (wk1 rfl (wk1 rfl (wk1 rfl (wk1 rfl (wk1 rfl (wk1 rfl wk0)))))))))))))))))))))))))))))))))))))))))))))))))))))))))))))))))))))))))))))))))))))))))))))))))))))))))))))) rfl) ?_
              rintro n hi3
              try simp only [setsT, setsE, List.set_cons_zero, List.set_cons_succ]
              obtain ⟨hn1, hn2⟩ := hi3
              refine w_seq ?_
              refine w_seq ?_
              refine w_reg ?_
              refine s_val rfl (v_mv lk9) pt60 ?_
              refine s_val rfl (v_mv lk7) pt61 ?_
              refine s_val rfl (v_lenS lk61) pt62 ?_
              refine s_val rfl (v_lss lk60 lk62) pt63 ?_
              refine s_nil ?_
              refine n_seq ?_
              first | refine w_cond lk63 (fun hc7 => ?_) (fun hc7 => ?_) | refine w_condB lk63 (fun hc7 => ?_) (fun hc7 => ?_)
              · skip
                have hnk : n < f.size := by omega
                refine w_skip ?_
                refine n_seq ?_
                refine w_seqC (ι := Bool) (fun (b : Bool) => [(8, bv b), (2, .any), (3, .any), (66, .any), (67, .any), (68, .any), (69, .any), (70, .any), (71, .any), (72, .any), (73, .any), (74, .any), (75, .any), (76, .any), (77, .any), (78, .any), (79, .any), (80, .any), (81, .any), (82, .any), (83, .any), (84, .any), (85, .any), (86, .any), (87, .any), (88, .any), (89, .any)]) (fun (b : Bool) => []) (fun (b : Bool) => b = quoT f (n + 1) ∧ badN (byteAt f n).toNat = false) ?_ ?_
                · try simp only [setsT, setsE, List.set_cons_zero, List.set_cons_succ]
                  refine w_block ?_
                  refine w_seq ?_
                  refine w_seq ?_
                  refine w_reg ?_
                  refine s_val rfl (v_mv lk7) pt66 ?_
                  refine s_val rfl (v_mv lk9) pt67 ?_
                  refine s_val rfl (v_ix lk66 lk67 (by omega) (by omega)) pt68 ?_
                  refine s_callp (mp1 lk68 mp0) (risPlain_a) pt69 ?_
                  refine s_val rfl (v_notB lk69) (ptS pt0) ?_
                  refine s_val rfl (v_mv (lkS lk0)) (ptS pt1) ?_
                  refine s_splitB (gtS gt1) (ptS pt1) (ptS pt1) (fun hg71 => ?_) (fun hg71 => ?_)
                  · skip
                    have hb : badN (byteAt f n).toNat = true := by have := hg71; rw [Bool.not_eq_true'] at this; unfold badN; rw [show plnN (byteAt f n).toNat = false from this]; rfl
                    have hFE : fieldE f = 1 := if_pos (any_hit (p := badN) hnk hb)
                    rw [hFE, if_pos (by decide)] at hj2
                    rw [hj2, if_pos (by decide)] at hk3
                    rw [hk3, if_pos (by decide)] at hV
                    refine s_no (gtS gt1) (ptS pt2) ?_
                    refine s_no (gtS gt1) (ptS pt3) ?_
                    refine s_no (gtS gt1) (ptS pt4) ?_
                    refine s_no (gtS gt1) (ptS pt5) ?_
                    refine s_val rfl (v_pickT (lkS lk1) lkb) (ptS pt6) ?_
                    refine s_nil ?_
                    refine n_seq ?_
                    refine w_condT (lkS lk6) ?_
                    refine w_seq ?_
                    refine w_reg ?_
                    refine s_val rfl (v_mv lks) pt2 ?_
                    refine s_val rfl (v_mv lki) pt3 ?_
                    refine s_nil ?_
                    refine n_seq ?_
                    refine w_rets ?_
                    refine r_thn ?_
                    refine r_blk ?_
                    refine r_thn ?_
                    refine r_thn ?_
                    refine r_blk ?_
                    refine r_thn ?_
                    refine r_blk ?_
                    refine r_thn ?_
                    refine r_thn ?_
                    refine r_blk ?_
                    refine r_thn ?_
                    refine r_blk ?_
                    refine r_thn ?_
                    refine r_thn ?_
                    refine r_blk ?_
                    refine r_thn ?_
                    refine w_ret (rsn (rm1 (rr_t gt2) (rm1 (rr_t gt3) rm0))) ?_
                    refine rt (by first | rfl | (simp only [AV.lt, AV.ltL, Ent.lt, List.all_cons, List.all_nil, Bool.and_true, Bool.and_self, decide_true, str_lt, ln_lt]; done) | (simp [AV.lt, AV.ltL, Ent.lt, str_lt, ln_lt, *]; done) | (simp [AV.lt, AV.ltL, Ent.lt, str_lt, ln_lt, *]; omega)) ?_
                    rw [hV]; rfl
                  · skip
                    have hg71' : plnN (byteAt f n).toNat = true := by have := hg71; rw [Bool.not_eq_false'] at this; exact this
                    refine s_do (gtS gt1) ?_
                    refine s_val rfl (v_mv lk7) (ptS pt2) ?_
                    refine s_do (gtS gt1) ?_
                    refine s_val rfl (v_mv lk9) (ptS pt3) ?_
                    refine s_do (gtS gt1) ?_
                    refine s_val rfl (v_ix (lkS lk2) (lkS lk3) (by omega) (by omega)) (ptS pt4) ?_
                    refine s_do (gtS gt1) ?_
                    refine s_val rfl (v_eql (lkS lk4) lki) (ptS pt5) ?_
                    refine s_val rfl (v_pickF (lkS lk1) (lkS lk5)) (ptS pt6) ?_
                    refine s_nil ?_
                    refine n_seq ?_
                    first | refine w_cond (lkS lk6) (fun hc8 => ?_) (fun hc8 => ?_) | refine w_condB (lkS lk6) (fun hc8 => ?_) (fun hc8 => ?_)
                    · skip
                      have hb : badN (byteAt f n).toNat = true := by unfold badN; rw [show decide (((byteAt f n).toNat : Int) = 34) = true from decide_eq_true hc8]; simp
                      have hFE : fieldE f = 1 := if_pos (any_hit (p := badN) hnk hb)
                      rw [hFE, if_pos (by decide)] at hj2
                      rw [hj2, if_pos (by decide)] at hk3
                      rw [hk3, if_pos (by decide)] at hV
                      refine w_seq ?_
                      refine w_reg ?_
                      refine s_val rfl (v_mv lks) pt2 ?_
                      refine s_val rfl (v_mv lki) pt3 ?_
                      refine s_nil ?_
                      refine n_seq ?_
                      refine w_rets ?_
                      refine r_thn ?_
                      refine r_blk ?_
                      refine r_thn ?_
                      refine r_thn ?_
                      refine r_blk ?_
                      refine r_thn ?_
                      refine r_blk ?_
                      refine r_thn ?_
                      refine r_thn ?_
                      refine r_blk ?_
                      refine r_thn ?_
                      refine r_blk ?_
                      refine r_thn ?_
                      refine r_thn ?_
                      refine r_blk ?_
                      refine r_thn ?_
                      refine w_ret (rsn (rm1 (rr_t gt2) (rm1 (rr_t gt3) rm0))) ?_
                      refine rt (by first | rfl | (simp only [AV.lt, AV.ltL, Ent.lt, List.all_cons, List.all_nil, Bool.and_true, Bool.and_self, decide_true, str_lt, ln_lt]; done) | (simp [AV.lt, AV.ltL, Ent.lt, str_lt, ln_lt, *]; done) | (simp [AV.lt, AV.ltL, Ent.lt, str_lt, ln_lt, *]; omega)) ?_
                      rw [hV]; rfl
                    · skip
                      have hb : badN (byteAt f n).toNat = false := by unfold badN; rw [hg71', show decide (((byteAt f n).toNat : Int) = 34) = false from decide_eq_false hc8]; rfl
                      have hqs := quoT_succ (f := f) (n := n) hnk
                      refine w_skip ?_
                      refine n_seq ?_
                      refine w_reg ?_
                      refine s_val rfl (v_mv lk8) (ptS pt7) ?_
                      refine s_val rfl (v_mv (lkS lk7)) (ptS pt8) ?_
                      first | refine s_splitP (gtS gt8) (ptS pt8) (ptS pt8) (fun hg78 => ?_) (fun hg78 => ?_) | refine s_splitB (gtS gt8) (ptS pt8) (ptS pt8) (fun hg78 => ?_) (fun hg78 => ?_)
                      · skip
                        refine s_no (gtS gt8) (ptS pt9) ?_
                        refine s_no (gtS gt8) (ptS pt10) ?_
                        refine s_no (gtS gt8) (ptS pt11) ?_
                        refine s_no (gtS gt8) (ptS pt12) ?_
                        refine s_val rfl (v_pickT (lkS lk8) lkb) (ptS pt13) ?_
                        refine s_val rfl (v_mv (lkS lk13)) (ptS pt14) ?_
                        refine s_no (gtS gt14) (ptS pt15) ?_
                        refine s_no (gtS gt14) (ptS pt16) ?_
                        refine s_no (gtS gt14) (ptS pt17) ?_
                        refine s_no (gtS gt14) (ptS pt18) ?_
                        refine s_val rfl (v_pickT (lkS lk14) lkb) (ptS pt19) ?_
                        refine s_val rfl (v_mv (lkS lk19)) pt8 ?_
                        refine s_nil ?_
                        refine n_blk ?_
                        refine n_thn ?_
                        exact ⟨true, (by exact ⟨by rw [hqs, hg78]; rfl, hb⟩), (by (try dsimp only); (try simp only [setsT, setsE, List.set_cons_zero, List.set_cons_succ]); exact ALe.same (wk1 rfl (wk1 rfl (wka (wka (wk1 rfl (wk1 rfl (wk1 rfl (wk1 rfl (wk1 (by first | rfl | exact ivx (by omega) | (simp; done)) (wk1 rfl (wk1 rfl (wk1 rfl (wk1 rfl (wk1 rfl (wk1 rfl (wk1 rfl (wk1 rfl (wk1 rfl (wk1 rfl (wk1 rfl (wk1 rfl (wk1 rfl (wk1 rfl (wk1 rfl (wk1 rfl (wk1 rfl (wk1 rfl (wk1 rfl (wk1 rfl (wk1 rfl (wk1 rfl (wk1 rfl (wk1 rfl (wk1 rfl (wk1 rfl (wk1 rfl (wk1 rfl (wk1 rfl (wk1 rfl (wk1 rfl (wk1 rfl (wk1 rfl (wk1 rfl (wk1 rfl (wk1 rfl (wk1 rfl (wk1 rfl (wk1 rfl (wk1 rfl (wk1 rfl (wk1 rfl (wk1 rfl (wk1 rfl (wk1 rfl (wk1 rfl (wk1 rfl (wk1 rfl (wk1 rfl (wk1 rfl (wk1 rfl (wk1 rfl (wk1 rfl (wk1 rfl (wk1 rfl (wk1 rfl (wk1 rfl (wka (wka (wka (wka (wka (wka (wka (wka (wka (wka (wka (wka (wka (wka (wka (wka (wka (wka (wka (wka (wka (wka (wka (wka (wk1 rfl (wk1 rfl (wk1 rfl (wk1 rfl (wk1 rfl (wk1 rfl (wk1 rfl (wk1 rfl (wk1 rfl (wk1 rfl (wk1 rfl (wk1 rfl (wk1 rfl (wk1 rfl (wk1 rfl (wk1 rfl (wk1 rfl (wk1 rfl (wk1 rfl (wk1 rfl wk0)))))))))))))))))))))))))))))))))))))))))))))))))))))))))))))))))))))))))))))))))))))))))))))))))))))))))))))) rfl)⟩
                      · skip
                        refine s_do (gtS gt8) ?_
                        refine s_val rfl (v_mv lk7) (ptS pt9) ?_
                        refine s_do (gtS gt8) ?_
                        refine s_val rfl (v_mv lk9) (ptS pt10) ?_
                        refine s_do (gtS gt8) ?_
                        refine s_val rfl (v_ix (lkS lk9) (lkS lk10) (by omega) (by omega)) (ptS pt11) ?_
                        refine s_do (gtS gt8) ?_
                        refine s_callp (mp1 (lkS lk11) mp0) (risBlank_a) (ptS pt12) ?_
                        refine s_val rfl (v_pickF (lkS lk8) (lkS lk12)) (ptS pt13) ?_
                        refine s_val rfl (v_mv (lkS lk13)) (ptS pt14) ?_
                        refine s_splitB (gtS gt14) (ptS pt14) (ptS pt14) (fun hg84 => ?_) (fun hg84 => ?_)
                        · skip
                          refine s_no (gtS gt14) (ptS pt15) ?_
                          refine s_no (gtS gt14) (ptS pt16) ?_
                          refine s_no (gtS gt14) (ptS pt17) ?_
                          refine s_no (gtS gt14) (ptS pt18) ?_
                          refine s_val rfl (v_pickT (lkS lk14) lkb) (ptS pt19) ?_
                          refine s_val rfl (v_mv (lkS lk19)) pt8 ?_
                          refine s_nil ?_
                          refine n_blk ?_
                          refine n_thn ?_
                          exact ⟨true, (by exact ⟨by rw [hqs]; unfold quoN; rw [show blkN (byteAt f n).toNat = _ from hg84]; simp, hb⟩), (by (try dsimp only); (try simp only [setsT, setsE, List.set_cons_zero, List.set_cons_succ]); exact ALe.same (wk1 rfl (wk1 rfl (wka (wka (wk1 rfl (wk1 rfl (wk1 rfl (wk1 rfl (wk1 (by first | rfl | exact ivx (by omega) | (simp; done)) (wk1 rfl (wk1 rfl (wk1 rfl (wk1 rfl (wk1 rfl (wk1 rfl (wk1 rfl (wk1 rfl (wk1 rfl (wk1 rfl (wk1 rfl (wk1 rfl (wk1 rfl (wk1 rfl (wk1 rfl (wk1 rfl (wk1 rfl (wk1 rfl (wk1 rfl (wk1 rfl (wk1 rfl (wk1 rfl (wk1 rfl (wk1 rfl (wk1 rfl (wk1 rfl (wk1 rfl (wk1 rfl (wk1 rfl (wk1 rfl (wk1 rfl (wk1 rfl (wk1 rfl (wk1 rfl (wk1 rfl (wk1 rfl (wk1 rfl (wk1 rfl (wk1 rfl (wk1 rfl (wk1 rfl (wk1 rfl (wk1 rfl (wk1 rfl (wk1 rfl (wk1 rfl (wk1 rfl (wk1 rfl (wk1 rfl (wk1 rfl (wk1 rfl (wk1 rfl (wk1 rfl (wk1 rfl (wk1 rfl (wk1 rfl (wk1 rfl (wka (wka (wka (wka (wka (wka (wka (wka (wka (wka (wka (wka (wka (wka (wka (wka (wka (wka (wka (wka (wka (wka (wka (wka (wk1 rfl (wk1 rfl (wk1 rfl (wk1 rfl (wk1 rfl (wk1 rfl (wk1 rfl (wk1 rfl (wk1 rfl (wk1 rfl (wk1 rfl (wk1 rfl (wk1 rfl (wk1 rfl (wk1 rfl (wk1 rfl (wk1 rfl (wk1 rfl (wk1 rfl (wk1 rfl wk0)))))))))))))))))))))))))))))))))))))))))))))))))))))))))))))))))))))))))))))))))))))))))))))))))))))))))))))) rfl)⟩
                        · skip
                          refine s_do (gtS gt14) ?_
                          refine s_val rfl (v_mv lk7) (ptS pt15) ?_
                          refine s_do (gtS gt14) ?_
                          refine s_val rfl (v_mv lk9) (ptS pt16) ?_
                          refine s_do (gtS gt14) ?_
                          refine s_val rfl (v_ix (lkS lk15) (lkS lk16) (by omega) (by omega)) (ptS pt17) ?_
                          refine s_do (gtS gt14) ?_
                          refine s_val rfl (v_eql (lkS lk17) lki) (ptS pt18) ?_
                          refine s_val rfl (v_pickF (lkS lk14) (lkS lk18)) (ptS pt19) ?_
                          refine s_val rfl (v_mv (lkS lk19)) pt8 ?_
                          refine s_nil ?_
                          refine n_blk ?_
                          refine n_thn ?_
                          exact ⟨decide (((byteAt f n).toNat : Int) = 35), (by exact ⟨by rw [hqs, hg78]; unfold quoN; rw [show blkN (byteAt f n).toNat = _ from hg84]; simp, hb⟩), (by (try dsimp only); (try simp only [setsT, setsE, List.set_cons_zero, List.set_cons_succ]); exact ALe.same (wk1 rfl (wk1 rfl (wka (wka (wk1 rfl (wk1 rfl (wk1 rfl (wk1 rfl (wk1 (by first | rfl | exact ivx (by omega) | (simp; done)) (wk1 rfl (wk1 rfl (wk1 rfl (wk1 rfl (wk1 rfl (wk1 rfl (wk1 rfl (wk1 rfl (wk1 rfl (wk1 rfl (wk1 rfl (wk1 rfl (wk1 rfl (wk1 rfl (wk1 rfl (wk1 rfl (wk1 rfl (wk1 rfl (wk1 rfl (wk1 rfl (wk1 rfl (wk1 rfl (wk1 rfl (wk1 rfl (wk1 rfl (wk1 rfl (wk1 rfl (wk1 rfl (wk1 rfl (wk1 rfl (wk1 rfl (wk1 rfl (wk1 rfl (wk1 rfl (wk1 rfl (wk1 rfl (wk1 rfl (wk1 rfl (wk1 rfl (wk1 rfl (wk1 rfl (wk1 rfl (wk1 rfl (wk1 rfl (wk1 rfl (wk1 rfl (wk1 rfl (wk1 rfl (wk1 rfl (wk1 rfl (wk1 rfl (wk1 rfl (wk1 rfl (wk1 rfl (wk1 rfl (wk1 rfl (wk1 rfl (wka (wka (wka (wka (wka (wka (wka (wka (wka (wka (wka (wka (wka (wka (wka (wka (wka (wka (wka (wka (wka (wka (wka (wka (wk1 rfl (wk1 rfl (wk1 rfl (wk1 rfl (wk1 rfl (wk1 rfl (wk1 rfl (wk1 rfl (wk1 rfl (wk1 rfl (wk1 rfl (wk1 rfl (wk1 rfl (wk1 rfl (wk1 rfl (wk1 rfl (wk1 rfl (wk1 rfl (wk1 rfl (wk1 rfl wk0)))))))))))))))))))))))))))))))))))))))))))))))))))))))))))))))))))))))))))))))))))))))))))))))))))))))))))))) rfl)⟩
                · rintro b hq28
                  try simp only [setsT, setsE, List.set_cons_zero, List.set_cons_succ]
                  obtain ⟨rfl, hb⟩ := hq28
                  refine w_reg ?_
                  refine s_val rfl (v_mv lk9) pt64 ?_
                  refine s_val rfl (v_add lk64 lki (by omega) (by omega)) pt65 ?_
                  refine s_val rfl (v_mv lk65) pt9 ?_
                  refine s_nil ?_
                  refine n_thn ?_
                  refine LoopTo.mk (n + 1) (by first | omega | (dsimp only; omega)) (by (try dsimp only); exact ⟨by omega, any_go (p := badN) hnk hb hn2⟩) (by (try dsimp only); (try simp only [setsT, setsE, List.set_cons_zero, List.set_cons_succ]); exact ALe.same (wk1 rfl (wk1 rfl (wka (wka (wk1 rfl (wk1 rfl (wk1 rfl (wk1 rfl (wk1 (by first | rfl | exact ivx (by omega) | (simp; done)) (wk1 (by first | rfl | exact ivx (by omega) | (simp; done)) (wk1 rfl (wk1 rfl (wk1 rfl (wk1 rfl (wk1 rfl (wk1 rfl (wk1 rfl (wk1 rfl (wk1 rfl (wk1 rfl (wk1 rfl (wk1 rfl (wk1 rfl (wk1 rfl (wk1 rfl (wk1 rfl (wk1 rfl (wk1 rfl (wk1 rfl (wk1 rfl (wk1 rfl (wk1 rfl (wk1 rfl (wk1 rfl (wk1 rfl (wk1 rfl (wk1 rfl (wk1 rfl (wk1 rfl (wk1 rfl (wk1 rfl (wk1 rfl (wk1 rfl (wk1 rfl (wk1 rfl (wk1 rfl (wk1 rfl (wk1 rfl (wk1 rfl (wk1 rfl (wk1 rfl (wk1 rfl (wk1 rfl (wk1 rfl (wk1 rfl (wk1 rfl (wk1 rfl (wk1 rfl (wk1 rfl (wk1 rfl (wka (wka (wka (wka (wka (wka (wka (wka (wka (wka (wka (wka (wka (wka (wka (wka (wka (wka (wka (wka (wka (wka (wka (wka (wka (wka (wka (wka (wka (wka (wk1 rfl (wk1 rfl (wk1 rfl (wk1 rfl (wk1 rfl (wk1 rfl (wk1 rfl (wk1 rfl (wk1 rfl (wk1 rfl (wk1 rfl (wk1 rfl (wk1 rfl (wk1 rfl (wk1 rfl (wk1 rfl (wk1 rfl (wk1 rfl (wk1 rfl (wk1 rfl wk0)))))))))))))))))))))))))))))))))))))))))))))))))))))))))))))))))))))))))))))))))))))))))))))))))))))))))))))) rfl)
              · skip
                have hFE := fieldE_end (f := f) (k := n) (by omega) hn2
                have hqe := quoT_end (f := f) (n := n) (by omega)
                refine w_exit ?_
                refine x_thn ?_
                refine x_thn ?_
                refine x_blk ?_
                refine n_seq ?_
                refine w_seq ?_
                refine w_seq ?_
                refine w_reg ?_
                refine s_val rfl (v_mv lk7) (ptS pt20) ?_
                refine s_val rfl (v_lenS (lkS lk20)) (ptS pt21) ?_
                refine s_val rfl (v_gtr (lkS lk21) lki) (ptS pt22) ?_
                refine s_nil ?_
                refine n_seq ?_
                first | refine w_cond (lkS lk22) (fun hc9 => ?_) (fun hc9 => ?_) | refine w_condB (lkS lk22) (fun hc9 => ?_) (fun hc9 => ?_)
                · skip
                  rw [if_pos (by omega)] at hFE
                  rw [hFE, if_pos (by decide)] at hj2
                  rw [hj2, if_pos (by decide)] at hk3
                  rw [hk3, if_pos (by decide)] at hV
                  refine w_seq ?_
                  refine w_reg ?_
                  refine s_val rfl (v_mv lks) pt2 ?_
                  refine s_val rfl (v_mv lki) pt3 ?_
                  refine s_nil ?_
                  refine n_seq ?_
                  refine w_rets ?_
                  refine r_thn ?_
                  refine r_blk ?_
                  refine r_thn ?_
                  refine r_thn ?_
                  refine r_blk ?_
                  refine r_thn ?_
                  refine r_blk ?_
                  refine r_thn ?_
                  refine r_thn ?_
                  refine r_blk ?_
                  refine r_thn ?_
                  refine w_ret (rsn (rm1 (rr_t gt2) (rm1 (rr_t gt3) rm0))) ?_
                  refine rt (by first | rfl | (simp only [AV.lt, AV.ltL, Ent.lt, List.all_cons, List.all_nil, Bool.and_true, Bool.and_self, decide_true, str_lt, ln_lt]; done) | (simp [AV.lt, AV.ltL, Ent.lt, str_lt, ln_lt, *]; done) | (simp [AV.lt, AV.ltL, Ent.lt, str_lt, ln_lt, *]; omega)) ?_
                  rw [hV]; rfl
                · skip
                  rw [if_neg (by omega)] at hFE
                  rw [hFE, if_neg (by decide)] at hj2
                  have htl : (textB f).size ≤ 26 := textB_len hFE
                  refine w_skip ?_
                  refine n_seq ?_
                  refine w_seqC (ι := Bs) (fun (T4 : Bs) => [(4, sv (bA T4)), (93, .any), (94, .any), (95, .any), (96, .any)]) (fun (T4 : Bs) => []) (fun (T4 : Bs) => T4 = T3 ++ (if 0 < j then [32] else [])) ?_ ?_
                  · try simp only [setsT, setsE, List.set_cons_zero, List.set_cons_succ]
                    refine w_seq ?_
                    refine w_reg ?_
                    refine s_val rfl (v_mv lk6) (ptS pt23) ?_
                    refine s_val rfl (v_gtr (lkS lk23) lki) (ptS pt24) ?_
                    refine s_nil ?_
                    refine n_seq ?_
                    first | refine w_cond (lkS lk24) (fun hc10 => ?_) (fun hc10 => ?_) | refine w_condB (lkS lk24) (fun hc10 => ?_) (fun hc10 => ?_)
                    · skip
                      refine w_reg ?_
                      refine s_val rfl (v_mv lk4) (ptS pt25) ?_
                      refine s_val rfl (v_addS (lkS lk25) lks (by first | omega | (rw [bA_size, show (⟨#[32]⟩ : ByteArray).size = 1 from rfl]; omega))) (ptS pt26) ?_
                      rw [show (⟨#[32]⟩ : ByteArray) = bA [32] from rfl, bA_app]
                      refine s_val rfl (v_mv (lkS lk26)) pt4 ?_
                      refine s_nil ?_
                      refine n_thn ?_
                      exact ⟨T3 ++ [32], (by rw [if_pos (by omega)]), (by (try dsimp only); (try simp only [setsT, setsE, List.set_cons_zero, List.set_cons_succ]); exact ALe.same (wk1 rfl (wk1 rfl (wk1 rfl (wk1 rfl (wk1 (by first | rfl | exact ivx (by omega) | (simp; done)) (wk1 rfl (wk1 rfl (wk1 rfl (wk1 rfl (wk1 rfl (wk1 rfl (wk1 rfl (wk1 rfl (wk1 rfl (wk1 rfl (wk1 rfl (wk1 rfl (wk1 rfl (wk1 rfl (wk1 rfl (wk1 rfl (wk1 rfl (wk1 rfl (wk1 rfl (wk1 rfl (wk1 rfl (wk1 rfl (wk1 rfl (wk1 rfl (wk1 rfl (wk1 rfl (wk1 rfl (wk1 rfl (wk1 rfl (wk1 rfl (wk1 rfl (wk1 rfl (wk1 rfl (wk1 rfl (wk1 rfl (wk1 rfl (wk1 rfl (wk1 rfl (wk1 rfl (wk1 rfl (wk1 rfl (wk1 rfl (wk1 rfl (wk1 rfl (wk1 rfl (wk1 rfl (wk1 rfl (wk1 rfl (wk1 rfl (wk1 rfl (wk1 rfl (wk1 rfl (wk1 rfl (wk1 rfl (wk1 rfl (wk1 rfl (wk1 rfl (wk1 rfl (wk1 rfl (wk1 rfl (wk1 rfl (wk1 rfl (wk1 rfl (wk1 rfl (wk1 rfl (wk1 rfl (wk1 rfl (wk1 rfl (wk1 rfl (wk1 rfl (wk1 rfl (wk1 rfl (wk1 rfl (wk1 rfl (wk1 rfl (wk1 rfl (wk1 rfl (wk1 rfl (wk1 rfl (wk1 rfl (wk1 rfl (wk1 rfl (wk1 rfl (wk1 rfl (wk1 rfl (wk1 rfl (wk1 rfl (wk1 rfl (wka (wka (wka (wka (wk1 rfl (wk1 rfl (wk1 rfl (wk1 rfl (wk1 rfl (wk1 rfl (wk1 rfl (wk1 rfl (wk1 rfl (wk1 rfl (wk1 rfl (wk1 rfl (wk1 rfl wk0)))))))))))))))))))))))))))))))))))))))))))))))))))))))))))))))))))))))))))))))))))))))))))))))))))))))))))))) rfl)⟩
                    · skip
                      refine w_skip ?_
                      refine n_thn ?_
                      exact ⟨T3, (by rw [if_neg (by omega), List.append_nil]), (by (try dsimp only); (try simp only [setsT, setsE, List.set_cons_zero, List.set_cons_succ]); exact ALe.same (wk1 rfl (wk1 rfl (wk1 rfl (wk1 rfl (wk1 (by first | rfl | exact ivx (by omega) | (simp; done)) (wk1 rfl (wk1 rfl (wk1 rfl (wk1 rfl (wk1 rfl (wk1 rfl (wk1 rfl (wk1 rfl (wk1 rfl (wk1 rfl (wk1 rfl (wk1 rfl (wk1 rfl (wk1 rfl (wk1 rfl (wk1 rfl (wk1 rfl (wk1 rfl (wk1 rfl (wk1 rfl (wk1 rfl (wk1 rfl (wk1 rfl (wk1 rfl (wk1 rfl (wk1 rfl (wk1 rfl (wk1 rfl (wk1 rfl (wk1 rfl (wk1 rfl (wk1 rfl (wk1 rfl (wk1 rfl (wk1 rfl (wk1 rfl (wk1 rfl (wk1 rfl (wk1 rfl (wk1 rfl (wk1 rfl (wk1 rfl (wk1 rfl (wk1 rfl (wk1 rfl (wk1 rfl (wk1 rfl (wk1 rfl (wk1 rfl (wk1 rfl (wk1 rfl (wk1 rfl (wk1 rfl (wk1 rfl (wk1 rfl (wk1 rfl (wk1 rfl (wk1 rfl (wk1 rfl (wk1 rfl (wk1 rfl (wk1 rfl (wk1 rfl (wk1 rfl (wk1 rfl (wk1 rfl (wk1 rfl (wk1 rfl (wk1 rfl (wk1 rfl (wk1 rfl (wk1 rfl (wk1 rfl (wk1 rfl (wk1 rfl (wk1 rfl (wk1 rfl (wk1 rfl (wk1 rfl (wk1 rfl (wk1 rfl (wk1 rfl (wk1 rfl (wk1 rfl (wk1 rfl (wk1 rfl (wk1 rfl (wk1 rfl (wka (wka (wka (wka (wk1 rfl (wk1 rfl (wk1 rfl (wk1 rfl (wk1 rfl (wk1 rfl (wk1 rfl (wk1 rfl (wk1 rfl (wk1 rfl (wk1 rfl (wk1 rfl (wk1 rfl wk0)))))))))))))))))))))))))))))))))))))))))))))))))))))))))))))))))))))))))))))))))))))))))))))))))))))))))))))) rfl)⟩
                  · rintro T4 hq34
                    try simp only [setsT, setsE, List.set_cons_zero, List.set_cons_succ]
                    have hT4l : T4.length ≤ T3.length + 1 := by rw [hq34]; split <;> simp
                    refine w_seqC (ι := ByteArray) (fun (z : ByteArray) => [(7, sv z), (97, .any), (98, .any), (99, .any), (100, .any)]) (fun (z : ByteArray) => []) (fun (z : ByteArray) => z = textB f) ?_ ?_
                    · try simp only [setsT, setsE, List.set_cons_zero, List.set_cons_succ]
                      refine w_seq ?_
                      refine w_reg ?_
                      refine s_val rfl (v_mv lk8) (ptS pt27) ?_
                      refine s_nil ?_
                      refine n_seq ?_
                      first | refine w_cond (lkS lk27) (fun hc11 => ?_) (fun hc11 => ?_) | refine w_condB (lkS lk27) (fun hc11 => ?_) (fun hc11 => ?_)
                      · skip
                        refine w_reg ?_
                        refine s_val rfl (v_mv lk7) (ptS pt28) ?_
                        refine s_val rfl (v_addS lks (lkS lk28) (by first | omega | (rw [show (⟨#[34]⟩ : ByteArray).size = 1 from rfl]; omega))) (ptS pt29) ?_
                        refine s_val rfl (v_addS (lkS lk29) lks (by first | omega | (rw [ByteArray.size_append, show (⟨#[34]⟩ : ByteArray).size = 1 from rfl]; omega))) (ptS pt30) ?_
                        refine s_val rfl (v_mv (lkS lk30)) pt7 ?_
                        refine s_nil ?_
                        refine n_thn ?_
                        exact ⟨(⟨#[34]⟩ : ByteArray) ++ f ++ ⟨#[34]⟩, (by unfold textB; rw [if_pos (by rw [← hqe]; exact hc11)]; rfl), (by (try dsimp only); (try simp only [setsT, setsE, List.set_cons_zero, List.set_cons_succ]); exact ALe.same (wk1 rfl (wk1 rfl (wk1 rfl (wk1 rfl (wk1 rfl (wk1 rfl (wk1 rfl (wk1 (by first | rfl | exact ivx (by omega) | (simp; done)) (wk1 rfl (wk1 rfl (wk1 rfl (wk1 rfl (wk1 rfl (wk1 rfl (wk1 rfl (wk1 rfl (wk1 rfl (wk1 rfl (wk1 rfl (wk1 rfl (wk1 rfl (wk1 rfl (wk1 rfl (wk1 rfl (wk1 rfl (wk1 rfl (wk1 rfl (wk1 rfl (wk1 rfl (wk1 rfl (wk1 rfl (wk1 rfl (wk1 rfl (wk1 rfl (wk1 rfl (wk1 rfl (wk1 rfl (wk1 rfl (wk1 rfl (wk1 rfl (wk1 rfl (wk1 rfl (wk1 rfl (wk1 rfl (wk1 rfl (wk1 rfl (wk1 rfl (wk1 rfl (wk1 rfl (wk1 rfl (wk1 rfl (wk1 rfl (wk1 rfl (wk1 rfl (wk1 rfl (wk1 rfl (wk1 rfl (wk1 rfl (wk1 rfl (wk1 rfl (wk1 rfl (wk1 rfl (wk1 rfl (wk1 rfl (wk1 rfl (wk1 rfl (wk1 rfl (wk1 rfl (wk1 rfl (wk1 rfl (wk1 rfl (wk1 rfl (wk1 rfl (wk1 rfl (wk1 rfl (wk1 rfl (wk1 rfl (wk1 rfl (wk1 rfl (wk1 rfl (wk1 rfl (wk1 rfl (wk1 rfl (wk1 rfl (wk1 rfl (wk1 rfl (wk1 rfl (wk1 rfl (wk1 rfl (wk1 rfl (wk1 rfl (wk1 rfl (wk1 rfl (wk1 rfl (wk1 rfl (wk1 rfl (wk1 rfl (wka (wka (wka (wka (wk1 rfl (wk1 rfl (wk1 rfl (wk1 rfl (wk1 rfl (wk1 rfl (wk1 rfl (wk1 rfl (wk1 rfl wk0)))))))))))))))))))))))))))))))))))))))))))))))))))))))))))))))))))))))))))))))))))))))))))))))))))))))))))))) rfl)⟩
                      · skip
                        refine w_skip ?_
                        refine n_thn ?_
                        exact ⟨f, (by unfold textB; rw [if_neg (by rw [← hqe, hc11]; simp)]), (by (try dsimp only); (try simp only [setsT, setsE, List.set_cons_zero, List.set_cons_succ]); exact ALe.same (wk1 rfl (wk1 rfl (wk1 rfl (wk1 rfl (wk1 rfl (wk1 rfl (wk1 rfl (wk1 (by first | rfl | exact ivx (by omega) | (simp; done)) (wk1 rfl (wk1 rfl (wk1 rfl (wk1 rfl (wk1 rfl (wk1 rfl (wk1 rfl (wk1 rfl (wk1 rfl (wk1 rfl (wk1 rfl (wk1 rfl (wk1 rfl (wk1 rfl (wk1 rfl (wk1 rfl (wk1 rfl (wk1 rfl (wk1 rfl (wk1 rfl (wk1 rfl (wk1 rfl (wk1 rfl (wk1 rfl (wk1 rfl (wk1 rfl (wk1 rfl (wk1 rfl (wk1 rfl (wk1 rfl (wk1 rfl (wk1 rfl (wk1 rfl (wk1 rfl (wk1 rfl (wk1 rfl (wk1 rfl (wk1 rfl (wk1 rfl (wk1 rfl (wk1 rfl (wk1 rfl (wk1 rfl (wk1 rfl (wk1 rfl (wk1 rfl (wk1 rfl (wk1 rfl (wk1 rfl (wk1 rfl (wk1 rfl (wk1 rfl (wk1 rfl (wk1 rfl (wk1 rfl (wk1 rfl (wk1 rfl (wk1 rfl (wk1 rfl (wk1 rfl (wk1 rfl (wk1 rfl (wk1 rfl (wk1 rfl (wk1 rfl (wk1 rfl (wk1 rfl (wk1 rfl (wk1 rfl (wk1 rfl (wk1 rfl (wk1 rfl (wk1 rfl (wk1 rfl (wk1 rfl (wk1 rfl (wk1 rfl (wk1 rfl (wk1 rfl (wk1 rfl (wk1 rfl (wk1 rfl (wk1 rfl (wk1 rfl (wk1 rfl (wk1 rfl (wk1 rfl (wk1 rfl (wk1 rfl (wka (wka (wka (wka (wk1 rfl (wk1 rfl (wk1 rfl (wk1 rfl (wk1 rfl (wk1 rfl (wk1 rfl (wk1 rfl (wk1 rfl wk0)))))))))))))))))))))))))))))))))))))))))))))))))))))))))))))))))))))))))))))))))))))))))))))))))))))))))))))) rfl)⟩
                    · rintro z hq36
                      try simp only [setsT, setsE, List.set_cons_zero, List.set_cons_succ]
                      subst hq36
                      refine w_reg ?_
                      refine s_val rfl (v_mv lk4) (ptS pt31) ?_
                      refine s_val rfl (v_mv lk7) (ptS pt32) ?_
                      refine s_val rfl (v_addS (lkS lk31) (lkS lk32) (by rw [bA_size]; omega)) (ptS pt33) ?_
                      rw [show bA T4 ++ textB f = bA (T4 ++ aB (textB f)) from by rw [← bA_app, bA_aB]]
                      refine s_val rfl (v_mv (lkS lk33)) pt4 ?_
                      refine s_nil ?_
                      refine n_blk ?_
                      refine n_seq ?_
                      refine w_reg ?_
                      refine s_val rfl (v_mv lk6) pt48 ?_
                      refine s_val rfl (v_add lk48 lki (by omega) (by omega)) pt49 ?_
                      refine s_val rfl (v_mv lk49) pt6 ?_
                      refine s_nil ?_
                      refine n_thn ?_
                      refine LoopTo.mk (⟨j + 1, T4 ++ aB (textB f)⟩) (by first | omega | (dsimp only; omega)) (by (try dsimp only); exact ⟨by omega, hj2, by rw [List.take_succ_eq_append_getElem hj, List.map_append, List.map_cons, List.map_nil, joinS_snoc, ← hf, hq34, hj3, List.length_map, List.length_take]; rcases Nat.eq_zero_or_pos j with h0 | h0; (subst h0; simp [joinS]); (rw [if_pos h0, if_pos (by omega)]; simp [List.append_assoc]), by rw [List.length_append, aB_len]; omega⟩) (by (try dsimp only); (try simp only [setsT, setsE, List.set_cons_zero, List.set_cons_succ]); exact ALe.same (wk1 rfl (wk1 rfl (wka (wka (wk1 (by first | rfl | exact ivx (by omega) | (simp; done)) (wk1 rfl (wk1 (by first | rfl | exact ivx (by omega) | (simp; done)) (wka (wka (wka (wk1 rfl (wk1 rfl (wk1 rfl (wk1 rfl (wk1 rfl (wk1 rfl (wk1 rfl (wk1 rfl (wk1 rfl (wk1 rfl (wk1 rfl (wk1 rfl (wk1 rfl (wk1 rfl (wk1 rfl (wk1 rfl (wk1 rfl (wk1 rfl (wk1 rfl (wk1 rfl (wk1 rfl (wk1 rfl (wk1 rfl (wk1 rfl (wk1 rfl (wk1 rfl (wk1 rfl (wk1 rfl (wk1 rfl (wk1 rfl (wka (wka (wka (wka (wka (wka (wka (wka (wka (wka (wka (wka (wka (wka (wka (wka (wka (wka (wka (wka (wka (wka (wka (wka (wka (wka (wka (wka (wka (wka (wka (wka (wka (wka (wka (wka (wka (wka (wka (wka (wka (wka (wka (wka (wka (wka (wka (wka (wka (wka (wka (wka (wka (wka (wka (wka (wka (wka (wka (wka (wka (wka (wka (wka (wk1 rfl (wk1 rfl (wk1 rfl (wk1 rfl (wk1 rfl (wk1 rfl wk0)))))))))))))))))))))))))))))))))))))))))))))))))))))))))))))))))))))))))))))))))))))))))))))))))))))))))))))) rfl)
            · skip
              have hje : j = (l[k]).2.2.length := by omega
              subst hje
              rw [List.drop_of_length_le (Nat.le_refl _)] at hj2
              rw [hj2, if_neg (show ¬ firstE [] ≠ 0 by simp [firstE])] at hk3
              rw [List.take_of_length_le (Nat.le_refl _)] at hj3
              refine w_exit ?_
              refine x_thn ?_
              refine x_thn ?_
              refine x_blk ?_
              refine n_seq ?_
              refine w_reg ?_
              refine s_val rfl (v_mv lk4) (ptS pt34) ?_
              refine s_val rfl (v_addS (lkS lk34) lks (by first | omega | (rw [bA_size, show (⟨#[10]⟩ : ByteArray).size = 1 from rfl]; omega))) (ptS pt35) ?_
              rw [show (⟨#[10]⟩ : ByteArray) = bA [10] from rfl, bA_app]
              refine s_val rfl (v_mv (lkS lk35)) pt4 ?_
              refine s_nil ?_
              refine n_blk ?_
              refine n_seq ?_
              refine w_reg ?_
              refine s_val rfl (v_mv lk5) pt17 ?_
              refine s_val rfl (v_add lk17 lki (by omega) (by omega)) pt18 ?_
              refine s_val rfl (v_mv lk18) pt5 ?_
              refine s_nil ?_
              refine n_thn ?_
              refine LoopTo.mk (⟨k + 1, T3 ++ [10]⟩) (by first | omega | (dsimp only; omega)) (by (try dsimp only); exact ⟨by omega, hk3, by rw [hk4, hlb, hj3, hq16]; simp [List.append_assoc], by rw [List.length_append, List.length_singleton]; omega⟩) (by (try dsimp only); (try simp only [setsT, setsE, List.set_cons_zero, List.set_cons_succ]); exact ALe.same (wk1 rfl (wk1 rfl (wka (wka (wk1 (by first | rfl | exact ivx (by omega) | (simp; done)) (wk1 (by first | rfl | exact ivx (by omega) | (simp; done)) (wka (wka (wka (wka (wk1 rfl (wk1 rfl (wk1 rfl (wka (wka (wka (wka (wka (wka (wka (wka (wka (wka (wka (wka (wka (wka (wka (wka (wka (wka (wka (wka (wka (wka (wka (wka (wka (wka (wka (wka (wka (wka (wka (wka (wka (wka (wka (wka (wka (wka (wka (wka (wka (wka (wka (wka (wka (wka (wka (wka (wka (wka (wka (wka (wka (wka (wka (wka (wka (wka (wka (wka (wka (wka (wka (wka (wka (wka (wka (wka (wka (wka (wka (wka (wka (wka (wka (wka (wka (wka (wka (wka (wka (wka (wka (wka (wka (wka (wka (wka (wka (wka (wka (wka (wka (wk1 rfl (wk1 rfl (wk1 rfl (wk1 rfl wk0)))))))))))))))))))))))))))))))))))))))))))))))))))))))))))))))))))))))))))))))))))))))))))))))))))))))))))))) rfl)
    · skip
      rw [List.drop_of_length_le (by omega), joinE] at hk3
      rw [List.drop_of_length_le (by omega), show joinT [] = [] from rfl, List.append_nil] at hk4
      rw [if_neg (by rw [hk3]; simp), hk4] at hV
      refine w_exit ?_
      refine x_thn ?_
      refine x_thn ?_
      refine x_blk ?_
      refine n_seq ?_
      refine w_seq ?_
      refine w_seq ?_
      refine w_reg ?_
      refine s_val rfl (v_mv lk4) (ptS pt36) ?_
      refine s_val rfl (v_lenS (lkS lk36)) (ptS pt37) ?_
      rw [bA_size]
      refine s_val rfl (v_gtr (lkS lk37) lki) (ptS pt38) ?_
      refine s_nil ?_
      refine n_seq ?_
      first | refine w_cond (lkS lk38) (fun hc12 => ?_) (fun hc12 => ?_) | refine w_condB (lkS lk38) (fun hc12 => ?_) (fun hc12 => ?_)
      · skip
        rw [if_pos (by omega)] at hV
        refine w_seq ?_
        refine w_reg ?_
        refine s_val rfl (v_mv lks) pt2 ?_
        refine s_val rfl (v_mv lki) pt3 ?_
        refine s_nil ?_
        refine n_seq ?_
        refine w_rets ?_
        refine r_thn ?_
        refine w_ret (rsn (rm1 (rr_t gt2) (rm1 (rr_t gt3) rm0))) ?_
        refine rt (by first | rfl | (simp only [AV.lt, AV.ltL, Ent.lt, List.all_cons, List.all_nil, Bool.and_true, Bool.and_self, decide_true, str_lt, ln_lt]; done) | (simp [AV.lt, AV.ltL, Ent.lt, str_lt, ln_lt, *]; done) | (simp [AV.lt, AV.ltL, Ent.lt, str_lt, ln_lt, *]; omega)) ?_
        rw [hV]; rfl
      · skip
        rw [if_neg (by omega)] at hV
        refine w_skip ?_
        refine n_seq ?_
        refine w_seq ?_
        refine w_reg ?_
        refine s_val rfl (v_mv lk4) (ptS pt39) ?_
        refine s_val rfl (v_mv (lkS lk39)) pt2 ?_
        refine s_val rfl (v_mv lki) pt3 ?_
        refine s_nil ?_
        refine n_seq ?_
        refine w_rets ?_
        refine w_ret (rsn (rm1 (rr_t gt2) (rm1 (rr_t gt3) rm0))) ?_
        refine rt (by first | rfl | (simp only [AV.lt, AV.ltL, Ent.lt, List.all_cons, List.all_nil, Bool.and_true, Bool.and_self, decide_true, str_lt, ln_lt]; done) | (simp [AV.lt, AV.ltL, Ent.lt, str_lt, ln_lt, *]; done) | (simp [AV.lt, AV.ltL, Ent.lt, str_lt, ln_lt, *]; omega)) ?_
        rw [hV]
end Go.Proofs.YtgjchdhdopgkkaaDoor
