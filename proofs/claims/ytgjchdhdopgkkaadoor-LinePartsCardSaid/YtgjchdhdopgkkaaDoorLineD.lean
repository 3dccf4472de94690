/-
  Contracts on plain data: fields and lines that may be joined, a field's text. Conditions: those that each theorem names.
-/
import Derived.Test.YtgjchdhdopgkkaaDoorBldA
set_option linter.unusedVariables false
set_option linter.unusedSimpArgs false
set_option maxRecDepth 100000
namespace Go.Proofs.YtgjchdhdopgkkaaDoor
open Go.Ab Go.RowKit
section
theorem LineD_Clone_5 {τ : Operand → AV} : fillAV τ [] [] = some [] := rfl
end
/-- line.field -/
def c32 : AC := (.seq (.reg [⟨(some 2), none, (.mv (.const (.int .i64 0)))⟩]) (.seq (.seq (.reg [⟨(some 4), none, (.mv (.tmp 0))⟩, ⟨(some 5), none, (.len true (.tmp 4))⟩, ⟨(some 6), none, (.mv (.const (.int .i64 0)))⟩]) (.block 0 (.loop (.seq (.reg [⟨(some 7), none, (.bin .lss (.tmp 6) (.tmp 5))⟩]) (.seq (.cond (.tmp 7) .skip (.exit 0)) (.seq (.block 1 (.seq (.reg [⟨(some 8), none, (.mv (.tmp 6))⟩, ⟨(some 3), none, (.mv (.tmp 8))⟩]) (.seq (.reg [⟨(some 9), none, (.mv (.tmp 0))⟩, ⟨(some 10), none, (.mv (.tmp 3))⟩, ⟨(some 11), none, (.ix (.tmp 9) (.tmp 10))⟩, ⟨(some 12), none, (.call (.func 40) [(.tmp 11)])⟩, ⟨(some 13), none, (.un .not (.tmp 12))⟩, ⟨(some 14), none, (.mv (.tmp 13))⟩, ⟨(some 15), (some (14, false)), (.mv (.tmp 0))⟩, ⟨(some 16), (some (14, false)), (.mv (.tmp 3))⟩, ⟨(some 17), (some (14, false)), (.ix (.tmp 15) (.tmp 16))⟩, ⟨(some 18), (some (14, false)), (.bin .eql (.tmp 17) (.const (.int .u8 34)))⟩, ⟨(some 19), none, (.pick (.tmp 14) (.const (.bool true)) (.tmp 18))⟩]) (.cond (.tmp 19) (.seq (.reg [⟨(some 2), none, (.mv (.const (.int .i64 1)))⟩]) .ret) .skip)))) (.reg [⟨(some 20), none, (.bin .add (.tmp 6) (.const (.int .i64 1)))⟩, ⟨(some 6), none, (.mv (.tmp 20))⟩]))))))) (.seq (.seq (.reg [⟨(some 21), none, (.mv (.tmp 0))⟩, ⟨(some 22), none, (.len true (.tmp 21))⟩, ⟨(some 23), none, (.bin .gtr (.tmp 22) (.const (.int .i64 24)))⟩]) (.cond (.tmp 23) (.seq (.reg [⟨(some 2), none, (.mv (.const (.int .i64 2)))⟩]) .ret) .skip)) (.seq (.reg [⟨(some 2), none, (.mv (.const (.int .i64 0)))⟩]) .ret))))
theorem k32 : compF Tryd.prog 32 = some ⟨c32, [(.tmp 2)], 24⟩ := by kernel_rfl
theorem i32 {a0 : AV} {h : AH} {R : AE → Prop} (hw : ∀ n, h.length = n → (∀ e ∈ h, e.lt n = true) → AV.ltL n [a0] = true → AV.bdL [a0] → aw Tryd.prog n c32 (retA [(.tmp 2)] fun x h' => ∃ z, h' = h ++ z ∧ x.lt n = true ∧ R x) [a0, .any, .any, .any, .any, .any, .any, .any, .any, .any, .any, .any, .any, .any, .any, .any, .any, .any, .any, .any, .any, .any, .any, .any] (h ++ [])) : ACalls Tryd.prog 32 [a0] h fun x h' => h' = h ∧ R x := ACalls.into k32 rfl hw
theorem w32 {a0 : AV} {h : AH} {res : AV} (hw : ∀ n, h.length = n → (∀ e ∈ h, e.lt n = true) → AV.ltL n [a0] = true → AV.bdL [a0] → aw Tryd.prog n c32 (retA [(.tmp 2)] fun x h' => ∃ z, h' = h ++ z ∧ x.lt n = true ∧ ∃ c, x = .ret c ∧ Wk c res) [a0, .any, .any, .any, .any, .any, .any, .any, .any, .any, .any, .any, .any, .any, .any, .any, .any, .any, .any, .any, .any, .any, .any, .any] (h ++ [])) : ACalls Tryd.prog 32 [a0] h fun x h' => h' = h ∧ x = .ret res := ACalls.weak (ACalls.into k32 rfl hw)
theorem n32 {a0 : AV} {h : AH} {R : AE → AH → Prop} (hw : ∀ n, h.length = n → (∀ e ∈ h, e.lt n = true) → AV.ltL n [a0] = true → AV.bdL [a0] → aw Tryd.prog n c32 (retA [(.tmp 2)] R) [a0, .any, .any, .any, .any, .any, .any, .any, .any, .any, .any, .any, .any, .any, .any, .any, .any, .any, .any, .any, .any, .any, .any, .any] (h ++ [])) : ACalls Tryd.prog 32 [a0] h R := ACalls.intoN k32 rfl hw
theorem j32 {a0 : AV} {h : AH} {R : AE → AH → Prop} (hw : ∀ n, h.length = n → (∀ e ∈ h, e.lt n = true) → AV.ltL n [a0] = true → AV.bdL [a0] → aw Tryd.prog n c32 (retA [(.tmp 2)] fun x h' => ∃ y z, h' = y ++ z ∧ y.length = n ∧ (∀ e ∈ y, e.lt n = true) ∧ x.lt n = true ∧ R x y) [a0, .any, .any, .any, .any, .any, .any, .any, .any, .any, .any, .any, .any, .any, .any, .any, .any, .any, .any, .any, .any, .any, .any, .any] (h ++ [])) : ACalls Tryd.prog 32 [a0] h R := ACalls.intoG k32 rfl hw
/-- line.line -/
def c18 : AC := (.seq (.reg [⟨(some 1), none, (.box 29 3 (.tmp 0))⟩, ⟨(some 2), none, (.mv (.const (.int .i64 0)))⟩]) (.seq (.block 0 (.seq (.reg [⟨(some 7), none, (.fa 2 (.tmp 1))⟩, ⟨(some 8), none, (.load false 1 (.tmp 7))⟩, ⟨(some 9), none, (.len false (.tmp 8))⟩, ⟨(some 10), none, (.bin .eql (.tmp 9) (.const (.int .i64 0)))⟩, ⟨(some 6), none, (.mv (.tmp 10))⟩]) (.cond (.tmp 6) (.seq (.reg [⟨(some 2), none, (.mv (.const (.int .i64 1)))⟩]) .ret) (.seq (.reg [⟨(some 12), none, (.fa 2 (.tmp 1))⟩, ⟨(some 13), none, (.load false 1 (.tmp 12))⟩, ⟨(some 14), none, (.len false (.tmp 13))⟩, ⟨(some 15), none, (.bin .gtr (.tmp 14) (.const (.int .i64 12)))⟩, ⟨(some 11), none, (.mv (.tmp 15))⟩]) (.cond (.tmp 11) (.seq (.reg [⟨(some 2), none, (.mv (.const (.int .i64 2)))⟩]) .ret) .skip))))) (.seq (.seq (.reg [⟨(some 16), none, (.fa 2 (.tmp 1))⟩, ⟨(some 17), none, (.load false 1 (.tmp 16))⟩, ⟨(some 18), none, (.len false (.tmp 17))⟩, ⟨(some 19), none, (.mv (.const (.int .i64 0)))⟩]) (.block 1 (.loop (.seq (.reg [⟨(some 20), none, (.bin .lss (.tmp 19) (.tmp 18))⟩]) (.seq (.cond (.tmp 20) .skip (.exit 1)) (.seq (.block 2 (.seq (.reg [⟨(some 21), none, (.ia 1 (.tmp 17) (.tmp 19))⟩, ⟨(some 22), none, (.load false 1 (.tmp 21))⟩, ⟨(some 4), none, (.mv (.tmp 22))⟩]) (.seq (.reg [⟨(some 23), none, (.mv (.tmp 4))⟩, ⟨(some 24), none, (.call (.func 32) [(.tmp 23)])⟩, ⟨(some 5), none, (.mv (.tmp 24))⟩]) (.seq (.reg [⟨(some 25), none, (.mv (.tmp 5))⟩, ⟨(some 26), none, (.bin .neq (.tmp 25) (.const (.int .i64 0)))⟩]) (.cond (.tmp 26) (.seq (.reg [⟨(some 27), none, (.mv (.tmp 5))⟩, ⟨(some 2), none, (.mv (.tmp 27))⟩]) .ret) .skip))))) (.reg [⟨(some 28), none, (.bin .add (.tmp 19) (.const (.int .i64 1)))⟩, ⟨(some 19), none, (.mv (.tmp 28))⟩]))))))) (.seq (.reg [⟨(some 2), none, (.mv (.const (.int .i64 0)))⟩]) .ret))))
theorem k18 : compF Tryd.prog 18 = some ⟨c18, [(.tmp 2)], 29⟩ := by kernel_rfl
theorem i18 {a0 : AV} {h : AH} {R : AE → Prop} (hw : ∀ n, h.length = n → (∀ e ∈ h, e.lt n = true) → AV.ltL n [a0] = true → AV.bdL [a0] → aw Tryd.prog n c18 (retA [(.tmp 2)] fun x h' => ∃ z, h' = h ++ z ∧ x.lt n = true ∧ R x) [a0, .any, .any, .any, .any, .any, .any, .any, .any, .any, .any, .any, .any, .any, .any, .any, .any, .any, .any, .any, .any, .any, .any, .any, .any, .any, .any, .any, .any] (h ++ [])) : ACalls Tryd.prog 18 [a0] h fun x h' => h' = h ∧ R x := ACalls.into k18 rfl hw
theorem w18 {a0 : AV} {h : AH} {res : AV} (hw : ∀ n, h.length = n → (∀ e ∈ h, e.lt n = true) → AV.ltL n [a0] = true → AV.bdL [a0] → aw Tryd.prog n c18 (retA [(.tmp 2)] fun x h' => ∃ z, h' = h ++ z ∧ x.lt n = true ∧ ∃ c, x = .ret c ∧ Wk c res) [a0, .any, .any, .any, .any, .any, .any, .any, .any, .any, .any, .any, .any, .any, .any, .any, .any, .any, .any, .any, .any, .any, .any, .any, .any, .any, .any, .any, .any] (h ++ [])) : ACalls Tryd.prog 18 [a0] h fun x h' => h' = h ∧ x = .ret res := ACalls.weak (ACalls.into k18 rfl hw)
theorem n18 {a0 : AV} {h : AH} {R : AE → AH → Prop} (hw : ∀ n, h.length = n → (∀ e ∈ h, e.lt n = true) → AV.ltL n [a0] = true → AV.bdL [a0] → aw Tryd.prog n c18 (retA [(.tmp 2)] R) [a0, .any, .any, .any, .any, .any, .any, .any, .any, .any, .any, .any, .any, .any, .any, .any, .any, .any, .any, .any, .any, .any, .any, .any, .any, .any, .any, .any, .any] (h ++ [])) : ACalls Tryd.prog 18 [a0] h R := ACalls.intoN k18 rfl hw
theorem j18 {a0 : AV} {h : AH} {R : AE → AH → Prop} (hw : ∀ n, h.length = n → (∀ e ∈ h, e.lt n = true) → AV.ltL n [a0] = true → AV.bdL [a0] → aw Tryd.prog n c18 (retA [(.tmp 2)] fun x h' => ∃ y z, h' = y ++ z ∧ y.length = n ∧ (∀ e ∈ y, e.lt n = true) ∧ x.lt n = true ∧ R x y) [a0, .any, .any, .any, .any, .any, .any, .any, .any, .any, .any, .any, .any, .any, .any, .any, .any, .any, .any, .any, .any, .any, .any, .any, .any, .any, .any, .any, .any] (h ++ [])) : ACalls Tryd.prog 18 [a0] h R := ACalls.intoG k18 rfl hw
/-- line.text -/
def c21 : AC := (.seq (.reg [⟨(some 2), none, (.mv (.const (.string ⟨#[]⟩)))⟩]) (.seq (.seq (.reg [⟨(some 3), none, (.mv (.tmp 0))⟩, ⟨(some 4), none, (.bin .eql (.tmp 3) (.const (.string ⟨#[]⟩)))⟩, ⟨(some 5), none, (.mv (.tmp 4))⟩, ⟨(some 6), (some (5, false)), (.mv (.tmp 0))⟩, ⟨(some 7), (some (5, false)), (.call (.func 34) [(.tmp 6), (.const (.string ⟨#[32, 9, 35]⟩))])⟩, ⟨(some 8), none, (.pick (.tmp 5) (.const (.bool true)) (.tmp 7))⟩]) (.cond (.tmp 8) (.seq (.reg [⟨(some 9), none, (.mv (.tmp 0))⟩, ⟨(some 10), none, (.bin .add (.const (.string ⟨#[34]⟩)) (.tmp 9))⟩, ⟨(some 11), none, (.bin .add (.tmp 10) (.const (.string ⟨#[34]⟩)))⟩, ⟨(some 2), none, (.mv (.tmp 11))⟩]) .ret) .skip)) (.seq (.reg [⟨(some 12), none, (.mv (.tmp 0))⟩, ⟨(some 2), none, (.mv (.tmp 12))⟩]) .ret)))
theorem k21 : compF Tryd.prog 21 = some ⟨c21, [(.tmp 2)], 13⟩ := by kernel_rfl
theorem i21 {a0 : AV} {h : AH} {R : AE → Prop} (hw : ∀ n, h.length = n → (∀ e ∈ h, e.lt n = true) → AV.ltL n [a0] = true → AV.bdL [a0] → aw Tryd.prog n c21 (retA [(.tmp 2)] fun x h' => ∃ z, h' = h ++ z ∧ x.lt n = true ∧ R x) [a0, .any, .any, .any, .any, .any, .any, .any, .any, .any, .any, .any, .any] (h ++ [])) : ACalls Tryd.prog 21 [a0] h fun x h' => h' = h ∧ R x := ACalls.into k21 rfl hw
theorem w21 {a0 : AV} {h : AH} {res : AV} (hw : ∀ n, h.length = n → (∀ e ∈ h, e.lt n = true) → AV.ltL n [a0] = true → AV.bdL [a0] → aw Tryd.prog n c21 (retA [(.tmp 2)] fun x h' => ∃ z, h' = h ++ z ∧ x.lt n = true ∧ ∃ c, x = .ret c ∧ Wk c res) [a0, .any, .any, .any, .any, .any, .any, .any, .any, .any, .any, .any, .any] (h ++ [])) : ACalls Tryd.prog 21 [a0] h fun x h' => h' = h ∧ x = .ret res := ACalls.weak (ACalls.into k21 rfl hw)
theorem n21 {a0 : AV} {h : AH} {R : AE → AH → Prop} (hw : ∀ n, h.length = n → (∀ e ∈ h, e.lt n = true) → AV.ltL n [a0] = true → AV.bdL [a0] → aw Tryd.prog n c21 (retA [(.tmp 2)] R) [a0, .any, .any, .any, .any, .any, .any, .any, .any, .any, .any, .any, .any] (h ++ [])) : ACalls Tryd.prog 21 [a0] h R := ACalls.intoN k21 rfl hw
theorem j21 {a0 : AV} {h : AH} {R : AE → AH → Prop} (hw : ∀ n, h.length = n → (∀ e ∈ h, e.lt n = true) → AV.ltL n [a0] = true → AV.bdL [a0] → aw Tryd.prog n c21 (retA [(.tmp 2)] fun x h' => ∃ y z, h' = y ++ z ∧ y.length = n ∧ (∀ e ∈ y, e.lt n = true) ∧ x.lt n = true ∧ R x y) [a0, .any, .any, .any, .any, .any, .any, .any, .any, .any, .any, .any, .any] (h ++ [])) : ACalls Tryd.prog 21 [a0] h R := ACalls.intoG k21 rfl hw
/-- slices.Clone[[]string,string] -/
def c20 : AC := (.seq (.reg [⟨(some 2), none, (.mv (.const (.slice none 0 0)))⟩]) (.seq (.seq (.reg [⟨(some 3), none, (.mv (.tmp 0))⟩, ⟨(some 4), none, (.eqn false (.tmp 3))⟩]) (.cond (.tmp 4) (.seq (.reg [⟨(some 2), none, (.mv (.const (.slice none 0 0)))⟩]) .ret) .skip)) (.seq (.reg [⟨(some 5), none, (.lit 9 1 0 [] [])⟩, ⟨(some 6), none, (.mv (.tmp 0))⟩, ⟨(some 7), none, (.app 9 1 16 (.tmp 5) (.tmp 6))⟩, ⟨(some 2), none, (.mv (.tmp 7))⟩]) .ret)))
theorem k20 : compF Tryd.prog 20 = some ⟨c20, [(.tmp 2)], 8⟩ := by kernel_rfl
theorem i20 {a0 : AV} {h : AH} {R : AE → Prop} (hw : ∀ n, h.length = n → (∀ e ∈ h, e.lt n = true) → AV.ltL n [a0] = true → AV.bdL [a0] → aw Tryd.prog n c20 (retA [(.tmp 2)] fun x h' => ∃ z, h' = h ++ z ∧ x.lt n = true ∧ R x) [a0, .any, .any, .any, .any, .any, .any, .any] (h ++ [])) : ACalls Tryd.prog 20 [a0] h fun x h' => h' = h ∧ R x := ACalls.into k20 rfl hw
theorem w20 {a0 : AV} {h : AH} {res : AV} (hw : ∀ n, h.length = n → (∀ e ∈ h, e.lt n = true) → AV.ltL n [a0] = true → AV.bdL [a0] → aw Tryd.prog n c20 (retA [(.tmp 2)] fun x h' => ∃ z, h' = h ++ z ∧ x.lt n = true ∧ ∃ c, x = .ret c ∧ Wk c res) [a0, .any, .any, .any, .any, .any, .any, .any] (h ++ [])) : ACalls Tryd.prog 20 [a0] h fun x h' => h' = h ∧ x = .ret res := ACalls.weak (ACalls.into k20 rfl hw)
theorem n20 {a0 : AV} {h : AH} {R : AE → AH → Prop} (hw : ∀ n, h.length = n → (∀ e ∈ h, e.lt n = true) → AV.ltL n [a0] = true → AV.bdL [a0] → aw Tryd.prog n c20 (retA [(.tmp 2)] R) [a0, .any, .any, .any, .any, .any, .any, .any] (h ++ [])) : ACalls Tryd.prog 20 [a0] h R := ACalls.intoN k20 rfl hw
theorem j20 {a0 : AV} {h : AH} {R : AE → AH → Prop} (hw : ∀ n, h.length = n → (∀ e ∈ h, e.lt n = true) → AV.ltL n [a0] = true → AV.bdL [a0] → aw Tryd.prog n c20 (retA [(.tmp 2)] fun x h' => ∃ y z, h' = y ++ z ∧ y.length = n ∧ (∀ e ∈ y, e.lt n = true) ∧ x.lt n = true ∧ R x y) [a0, .any, .any, .any, .any, .any, .any, .any] (h ++ [])) : ACalls Tryd.prog 20 [a0] h R := ACalls.intoG k20 rfl hw
def badN (n : Int) : Bool := !plnN n || decide (n = 34)
def fieldE (f : ByteArray) : Int := if (aB f).any (fun c => badN c.toNat) = true then 1 else if 24 < f.size then 2 else 0
def firstE : List ByteArray → Int
  | [] => 0
  | f :: fs => if fieldE f ≠ 0 then fieldE f else firstE fs
def lineE (fs : List ByteArray) : Int := if fs.length = 0 then 1 else if 12 < fs.length then 2 else firstE fs
def quoN (n : Int) : Bool := blkN n || decide (n = 35)
def quoB (f : ByteArray) : Bool := decide (f.size = 0) || (aB f).any (fun c => quoN c.toNat)
def textB (f : ByteArray) : ByteArray := if quoB f = true then bA [34] ++ f ++ bA [34] else f
theorem any_hit {p : Int → Bool} {s : ByteArray} {k : Nat} (h : k < s.size) (hp : p (byteAt s k).toNat = true) : (aB s).any (fun c => p c.toNat) = true := by
  rw [← List.take_append_drop k (aB s), List.any_append, aB_at h]
  simp [hp]
theorem any_go {p : Int → Bool} {s : ByteArray} {k : Nat} (h : k < s.size) (hp : p (byteAt s k).toNat = false) (ht : ((aB s).take k).any (fun c => p c.toNat) = false) : ((aB s).take (k + 1)).any (fun c => p c.toNat) = false := by
  rw [List.take_add, List.any_append, ht, aB_at h]
  simp [hp]
theorem any_end {p : Int → Bool} {s : ByteArray} {k : Nat} (h : s.size ≤ k) (ht : ((aB s).take k).any (fun c => p c.toNat) = false) : (aB s).any (fun c => p c.toNat) = false := by
  rw [List.take_of_length_le (show (aB s).length ≤ k from h)] at ht; exact ht
theorem lnfieldE_a {f : ByteArray} {h : AH} (hf : f.size ≤ maxLen) : ACalls Tryd.prog 32 [sv f] h fun x h' => h' = h ∧ x = .ret (iv (fieldE f)) := by
  have hm : f.size ≤ 9223372036854775807 := by simpa [maxLen] using hf
  refine i32 ?_
  intro N hn hlt hlA hbd
  try simp only [AV.bdL, AV.bd, and_true, true_and] at hbd
  refine w_seq ?_
  refine w_reg ?_
  refine s_val rfl (v_mv lki) pt2 ?_
  refine s_nil ?_
  refine n_seq ?_
  refine w_seq ?_
  refine w_seq ?_
  refine w_reg ?_
  refine s_val rfl (v_mv lk0) pt4 ?_
  refine s_val rfl (v_lenS lk4) pt5 ?_
  refine s_val rfl (v_mv lki) pt6 ?_
  refine s_nil ?_
  refine n_seq ?_
  refine w_block ?_
  refine w_loop (ι := Nat) (fun (k : Nat) => [(6, iv (k : Int)), (2, .any), (3, .any), (7, .any), (8, .any), (9, .any), (10, .any), (11, .any), (12, .any), (13, .any), (14, .any), (15, .any), (16, .any), (17, .any), (18, .any), (19, .any), (20, .any)]) (fun (k : Nat) => []) (fun (k : Nat) => k ≤ f.size ∧ ((aB f).take k).any (fun c => badN c.toNat) = false) (fun (k : Nat) => f.size - k) (0) (by exact ⟨Nat.zero_le _, rfl⟩) (by try simp only [setsT, setsE, List.set_cons_zero, List.set_cons_succ]; exact ALe.same (wk1 rfl (wk1 rfl (wka (wka (wk1 rfl (wk1 rfl (wk1 (by first | rfl | exact ivx (by omega) | (simp; done)) (wka (wka (wka (wka (wka (wka (wka (wka (wka (wka (wka (wka (wka (wka (wk1 rfl (wk1 rfl (wk1 rfl wk0)))))))))))))))))))))))) rfl) ?_
  rintro k hi1
  try simp only [setsT, setsE, List.set_cons_zero, List.set_cons_succ]
  obtain ⟨hk1, hk2⟩ := hi1
  refine w_seq ?_
  refine w_reg ?_
  refine s_val rfl (v_lss lk6 lk5) pt7 ?_
  refine s_nil ?_
  refine n_seq ?_
  refine w_seq ?_
  first | refine w_cond lk7 (fun hc1 => ?_) (fun hc1 => ?_) | refine w_condB lk7 (fun hc1 => ?_) (fun hc1 => ?_)
  · skip
    have hk : k < f.size := by omega
    refine w_skip ?_
    refine n_seq ?_
    refine w_seq ?_
    refine w_block ?_
    refine w_seq ?_
    refine w_reg ?_
    refine s_val rfl (v_mv lk6) pt8 ?_
    refine s_val rfl (v_mv lk8) pt3 ?_
    refine s_nil ?_
    refine n_seq ?_
    refine w_seq ?_
    refine w_reg ?_
    refine s_val rfl (v_mv lk0) pt9 ?_
    refine s_val rfl (v_mv lk3) pt10 ?_
    refine s_val rfl (v_ix lk9 lk10 (by omega) (by omega)) pt11 ?_
    refine s_callp (mp1 lk11 mp0) (lnplain_a) pt12 ?_
    refine s_val rfl (v_notB lk12) pt13 ?_
    refine s_val rfl (v_mv lk13) pt14 ?_
    refine s_splitB gt14 pt14 pt14 (fun hg14 => ?_) (fun hg14 => ?_)
    · skip
      have hb : badN (byteAt f k).toNat = true := by have := hg14; rw [Bool.not_eq_true'] at this; unfold badN; rw [show plnN (byteAt f k).toNat = false from this]; rfl
      have hE : fieldE f = 1 := if_pos (any_hit (p := badN) hk hb)
      refine s_no gt14 pt15 ?_
      refine s_no gt14 pt16 ?_
      refine s_no gt14 pt17 ?_
      refine s_no gt14 pt18 ?_
      refine s_val rfl (v_pickT lk14 lkb) pt19 ?_
      refine s_nil ?_
      refine n_seq ?_
      refine w_condT lk19 ?_
      refine w_seq ?_
      refine w_reg ?_
      refine s_val rfl (v_mv lki) pt2 ?_
      refine s_nil ?_
      refine n_seq ?_
      refine w_rets ?_
      refine r_blk ?_
      refine r_thn ?_
      refine r_thn ?_
      refine r_blk ?_
      refine r_thn ?_
      refine w_ret (rs1 (rr_t gt2)) ?_
      refine rt (by first | rfl | (simp only [AV.lt, AV.ltL, Ent.lt, List.all_cons, List.all_nil, Bool.and_true, Bool.and_self, decide_true]; done) | (simp [AV.lt, AV.ltL, Ent.lt, *]; done) | (simp [AV.lt, AV.ltL, Ent.lt, *]; omega)) ?_
      rw [hE]
    · skip
      have hg14' : plnN (byteAt f k).toNat = true := by have := hg14; rw [Bool.not_eq_false'] at this; exact this
      refine s_do gt14 ?_
      refine s_val rfl (v_mv lk0) pt15 ?_
      refine s_do gt14 ?_
      refine s_val rfl (v_mv lk3) pt16 ?_
      refine s_do gt14 ?_
      refine s_val rfl (v_ix lk15 lk16 (by omega) (by omega)) pt17 ?_
      refine s_do gt14 ?_
      refine s_val rfl (v_eql lk17 lki) pt18 ?_
      refine s_val rfl (v_pickF lk14 lk18) pt19 ?_
      refine s_nil ?_
      refine n_seq ?_
      first | refine w_cond lk19 (fun hc2 => ?_) (fun hc2 => ?_) | refine w_condB lk19 (fun hc2 => ?_) (fun hc2 => ?_)
      · skip
        have hb : badN (byteAt f k).toNat = true := by unfold badN; rw [show decide (((byteAt f k).toNat : Int) = 34) = true from decide_eq_true hc2]; simp
        have hE : fieldE f = 1 := if_pos (any_hit (p := badN) hk hb)
        refine w_seq ?_
        refine w_reg ?_
        refine s_val rfl (v_mv lki) pt2 ?_
        refine s_nil ?_
        refine n_seq ?_
        refine w_rets ?_
        refine r_blk ?_
        refine r_thn ?_
        refine r_thn ?_
        refine r_blk ?_
        refine r_thn ?_
        refine w_ret (rs1 (rr_t gt2)) ?_
        refine rt (by first | rfl | (simp only [AV.lt, AV.ltL, Ent.lt, List.all_cons, List.all_nil, Bool.and_true, Bool.and_self, decide_true]; done) | (simp [AV.lt, AV.ltL, Ent.lt, *]; done) | (simp [AV.lt, AV.ltL, Ent.lt, *]; omega)) ?_
        rw [hE]
      · skip
        have hb : badN (byteAt f k).toNat = false := by unfold badN; rw [hg14', show decide (((byteAt f k).toNat : Int) = 34) = false from decide_eq_false hc2]; rfl
        refine w_skip ?_
        refine n_blk ?_
        refine n_seq ?_
        refine w_reg ?_
        refine s_val rfl (v_add lk6 lki (by omega) (by omega)) pt20 ?_
        refine s_val rfl (v_mv lk20) pt6 ?_
        refine s_nil ?_
        refine n_thn ?_
        refine LoopTo.mk (k + 1) (by first | omega | (dsimp only; omega)) (by (try dsimp only); exact ⟨by omega, any_go (p := badN) hk hb hk2⟩) (by (try dsimp only); (try simp only [setsT, setsE, List.set_cons_zero, List.set_cons_succ]); exact ALe.same (wk1 rfl (wk1 rfl (wka (wka (wk1 rfl (wk1 rfl (wk1 (by first | rfl | exact ivx (by omega) | (simp; done)) (wka (wka (wka (wka (wka (wka (wka (wka (wka (wka (wka (wka (wka (wka (wk1 rfl (wk1 rfl (wk1 rfl wk0)))))))))))))))))))))))) rfl)
  · skip
    have hA := any_end (p := badN) (s := f) (k := k) (by omega) hk2
    refine w_exit ?_
    refine x_thn ?_
    refine x_thn ?_
    refine x_blk ?_
    refine n_seq ?_
    refine w_seq ?_
    refine w_seq ?_
    refine w_reg ?_
    refine s_val rfl (v_mv lk0) pt21 ?_
    refine s_val rfl (v_lenS lk21) pt22 ?_
    refine s_val rfl (v_gtr lk22 lki) pt23 ?_
    refine s_nil ?_
    refine n_seq ?_
    first | refine w_cond lk23 (fun hc3 => ?_) (fun hc3 => ?_) | refine w_condB lk23 (fun hc3 => ?_) (fun hc3 => ?_)
    · skip
      refine w_seq ?_
      refine w_reg ?_
      refine s_val rfl (v_mv lki) pt2 ?_
      refine s_nil ?_
      refine n_seq ?_
      refine w_rets ?_
      refine r_thn ?_
      refine w_ret (rs1 (rr_t gt2)) ?_
      refine rt (by first | rfl | (simp only [AV.lt, AV.ltL, Ent.lt, List.all_cons, List.all_nil, Bool.and_true, Bool.and_self, decide_true]; done) | (simp [AV.lt, AV.ltL, Ent.lt, *]; done) | (simp [AV.lt, AV.ltL, Ent.lt, *]; omega)) ?_
      rw [fieldE, if_neg (by rw [hA]; simp), if_pos (by omega)]
    · skip
      refine w_skip ?_
      refine n_seq ?_
      refine w_seq ?_
      refine w_reg ?_
      refine s_val rfl (v_mv lki) pt2 ?_
      refine s_nil ?_
      refine n_seq ?_
      refine w_rets ?_
      refine w_ret (rs1 (rr_t gt2)) ?_
      refine rt (by first | rfl | (simp only [AV.lt, AV.ltL, Ent.lt, List.all_cons, List.all_nil, Bool.and_true, Bool.and_self, decide_true]; done) | (simp [AV.lt, AV.ltL, Ent.lt, *]; done) | (simp [AV.lt, AV.ltL, Ent.lt, *]; omega)) ?_
      rw [fieldE, if_neg (by rw [hA]; simp), if_neg (by omega)]
theorem firstE_at {fs : List ByteArray} {k : Nat} (h : k < fs.length) : firstE (fs.drop k) = if fieldE fs[k] ≠ 0 then fieldE fs[k] else firstE (fs.drop (k + 1)) := by
  rw [List.drop_eq_getElem_cons h, firstE]
theorem lnlineE_a {n : Int} {b : Bool} {fs : List ByteArray} {full : Bool} {h : AH} (hfs : ∀ f ∈ fs, f.size ≤ maxLen) : ACalls Tryd.prog 18 [.agg [iv n, bv b, .sl fs.length 1 full (rows strC fs)]] h fun x h' => h' = h ∧ x = .ret (iv (lineE fs)) := by
  refine i18 ?_
  intro N hn hlt hlA hbd
  try simp only [AV.bdL, AV.bd, and_true, true_and] at hbd
  refine w_seq ?_
  refine w_reg ?_
  refine s_eff rfl rfl (e_box (cvl lk0 rfl) rfl (hl0 hn) ha0) pt1 ?_
  refine s_val rfl (v_mv lki) pt2 ?_
  refine s_nil ?_
  refine n_seq ?_
  refine w_seq ?_
  refine w_block ?_
  refine w_seq ?_
  refine w_reg ?_
  refine s_val rfl (v_fap0 lk1) pt7 ?_
  refine s_val rfl (v_loadp lk7 (hga hn rfl) gt2) pt8 ?_
  refine s_val rfl (v_lenL lk8) pt9 ?_
  refine s_val rfl (v_eql lk9 lki) pt10 ?_
  refine s_val rfl (v_mv lk10) pt6 ?_
  refine s_nil ?_
  refine n_seq ?_
  first | refine w_cond lk6 (fun hc1 => ?_) (fun hc1 => ?_) | refine w_condB lk6 (fun hc1 => ?_) (fun hc1 => ?_)
  · skip
    have hE : lineE fs = 1 := if_pos (by omega)
    refine w_seq ?_
    refine w_reg ?_
    refine s_val rfl (v_mv lki) pt2 ?_
    refine s_nil ?_
    refine n_seq ?_
    refine w_rets ?_
    refine r_blk ?_
    refine r_thn ?_
    refine w_ret (rs1 (rr_t gt2)) ?_
    refine rt (by first | rfl | (simp only [AV.lt, AV.ltL, Ent.lt, List.all_cons, List.all_nil, Bool.and_true, Bool.and_self, decide_true, str_lt]; done) | (simp [AV.lt, AV.ltL, Ent.lt, str_lt, *]; done) | (simp [AV.lt, AV.ltL, Ent.lt, str_lt, *]; omega)) ?_
    rw [hE]
  · skip
    refine w_seq ?_
    refine w_reg ?_
    refine s_val rfl (v_fap0 lk1) pt12 ?_
    refine s_val rfl (v_loadp lk12 (hga hn rfl) gt2) pt13 ?_
    refine s_val rfl (v_lenL lk13) pt14 ?_
    refine s_val rfl (v_gtr lk14 lki) pt15 ?_
    refine s_val rfl (v_mv lk15) pt11 ?_
    refine s_nil ?_
    refine n_seq ?_
    first | refine w_cond lk11 (fun hc2 => ?_) (fun hc2 => ?_) | refine w_condB lk11 (fun hc2 => ?_) (fun hc2 => ?_)
    · skip
      have hE : lineE fs = 2 := by rw [lineE, if_neg (by omega), if_pos (by omega)]
      refine w_seq ?_
      refine w_reg ?_
      refine s_val rfl (v_mv lki) pt2 ?_
      refine s_nil ?_
      refine n_seq ?_
      refine w_rets ?_
      refine r_blk ?_
      refine r_thn ?_
      refine w_ret (rs1 (rr_t gt2)) ?_
      refine rt (by first | rfl | (simp only [AV.lt, AV.ltL, Ent.lt, List.all_cons, List.all_nil, Bool.and_true, Bool.and_self, decide_true, str_lt]; done) | (simp [AV.lt, AV.ltL, Ent.lt, str_lt, *]; done) | (simp [AV.lt, AV.ltL, Ent.lt, str_lt, *]; omega)) ?_
      rw [hE]
    · skip
      have hE : lineE fs = firstE fs := by rw [lineE, if_neg (by omega), if_neg (by omega)]
      refine w_skip ?_
      refine n_blk ?_
      refine n_seq ?_
      refine w_seq ?_
      refine w_seq ?_
      refine w_reg ?_
      refine s_val rfl (v_fap0 lk1) pt16 ?_
      refine s_val rfl (v_loadp lk16 (hga hn rfl) gt2) pt17 ?_
      refine s_val rfl (v_lenL lk17) pt18 ?_
      refine s_val rfl (v_mv lki) pt19 ?_
      refine s_nil ?_
      refine n_seq ?_
      refine w_block ?_
      refine w_loop (ι := Nat) (fun (k : Nat) => [(19, iv (k : Int)), (2, .any), (4, .any), (5, .any), (20, .any), (21, .any), (22, .any), (23, .any), (24, .any), (25, .any), (26, .any), (27, .any), (28, .any)]) (fun (k : Nat) => []) (fun (k : Nat) => k ≤ fs.length ∧ lineE fs = firstE (fs.drop k)) (fun (k : Nat) => fs.length - k) (0) (by exact ⟨Nat.zero_le _, hE⟩) (by try simp only [setsT, setsE, List.set_cons_zero, List.set_cons_succ]; exact ALe.same (wk1 rfl (wk1 rfl (wka (wk1 rfl (wka (wka (wk1 rfl (wk1 rfl (wk1 rfl (wk1 rfl (wk1 rfl (wk1 rfl (wk1 rfl (wk1 rfl (wk1 rfl (wk1 rfl (wk1 rfl (wk1 rfl (wk1 rfl (wk1 (by first | rfl | exact ivx (by omega) | (simp; done)) (wka (wka (wka (wka (wka (wka (wka (wka (wka wk0))))))))))))))))))))))))))))) rfl) ?_
      rintro k hi1
      try simp only [setsT, setsE, List.set_cons_zero, List.set_cons_succ]
      obtain ⟨hk1, hk2⟩ := hi1
      refine w_seq ?_
      refine w_reg ?_
      refine s_val rfl (v_lss lk19 lk18) pt20 ?_
      refine s_nil ?_
      refine n_seq ?_
      refine w_seq ?_
      first | refine w_cond lk20 (fun hc3 => ?_) (fun hc3 => ?_) | refine w_condB lk20 (fun hc3 => ?_) (fun hc3 => ?_)
      · skip
        have hk : k < fs.length := by omega
        rw [firstE_at hk] at hk2
        refine w_skip ?_
        refine n_seq ?_
        refine w_seq ?_
        refine w_block ?_
        refine w_seq ?_
        refine w_reg ?_
        refine s_val rfl (v_iaR lk17 lk19 str_len1 (Nat.le_of_ble_eq_true rfl) (by first | rfl | omega) (by omega) (by first | rfl | omega) rfl) pt21 ?_
        refine s_val rfl (v_loadr lk21 gt0) pt22 ?_
        refine s_val rfl (v_mv lk22) pt4 ?_
        refine s_nil ?_
        refine n_seq ?_
        refine w_seq ?_
        refine w_reg ?_
        refine s_val rfl (v_mv lk4) pt23 ?_
        refine s_callp (mp1 lk23 mp0) (lnfieldE_a (hfs _ (List.getElem_mem hk))) pt24 ?_
        refine s_val rfl (v_mv lk24) pt5 ?_
        refine s_nil ?_
        refine n_seq ?_
        refine w_seq ?_
        refine w_reg ?_
        refine s_val rfl (v_mv lk5) pt25 ?_
        refine s_val rfl (v_neq lk25 lki) pt26 ?_
        refine s_nil ?_
        refine n_seq ?_
        first | refine w_cond lk26 (fun hc4 => ?_) (fun hc4 => ?_) | refine w_condB lk26 (fun hc4 => ?_) (fun hc4 => ?_)
        · skip
          rw [if_pos hc4] at hk2
          refine w_seq ?_
          refine w_reg ?_
          refine s_val rfl (v_mv lk5) pt27 ?_
          refine s_val rfl (v_mv lk27) pt2 ?_
          refine s_nil ?_
          refine n_seq ?_
          refine w_rets ?_
          refine r_blk ?_
          refine r_thn ?_
          refine r_thn ?_
          refine r_blk ?_
          refine r_thn ?_
          refine w_ret (rs1 (rr_t gt2)) ?_
          refine rt (by first | rfl | (simp only [AV.lt, AV.ltL, Ent.lt, List.all_cons, List.all_nil, Bool.and_true, Bool.and_self, decide_true, str_lt]; done) | (simp [AV.lt, AV.ltL, Ent.lt, str_lt, *]; done) | (simp [AV.lt, AV.ltL, Ent.lt, str_lt, *]; omega)) ?_
          rw [hk2]
        · skip
          rw [if_neg hc4] at hk2
          refine w_skip ?_
          refine n_blk ?_
          refine n_seq ?_
          refine w_reg ?_
          refine s_val rfl (v_add lk19 lki (by omega) (by omega)) pt28 ?_
          refine s_val rfl (v_mv lk28) pt19 ?_
          refine s_nil ?_
          refine n_thn ?_
          refine LoopTo.mk (k + 1) (by first | omega | (dsimp only; omega)) (by (try dsimp only); exact ⟨by omega, hk2⟩) (by (try dsimp only); (try simp only [setsT, setsE, List.set_cons_zero, List.set_cons_succ]); exact ALe.same (wk1 rfl (wk1 rfl (wka (wk1 rfl (wka (wka (wk1 rfl (wk1 rfl (wk1 rfl (wk1 rfl (wk1 rfl (wk1 rfl (wk1 rfl (wk1 rfl (wk1 rfl (wk1 rfl (wk1 rfl (wk1 rfl (wk1 rfl (wk1 (by first | rfl | exact ivx (by omega) | (simp; done)) (wka (wka (wka (wka (wka (wka (wka (wka (wka wk0))))))))))))))))))))))))))))) rfl)
      · skip
        rw [List.drop_of_length_le (by omega)] at hk2
        refine w_exit ?_
        refine x_thn ?_
        refine x_thn ?_
        refine x_blk ?_
        refine n_seq ?_
        refine w_seq ?_
        refine w_reg ?_
        refine s_val rfl (v_mv lki) pt2 ?_
        refine s_nil ?_
        refine n_seq ?_
        refine w_rets ?_
        refine w_ret (rs1 (rr_t gt2)) ?_
        refine rt (by first | rfl | (simp only [AV.lt, AV.ltL, Ent.lt, List.all_cons, List.all_nil, Bool.and_true, Bool.and_self, decide_true, str_lt]; done) | (simp [AV.lt, AV.ltL, Ent.lt, str_lt, *]; done) | (simp [AV.lt, AV.ltL, Ent.lt, str_lt, *]; omega)) ?_
        rw [hk2]; rfl
theorem containsAny_any (cs : Bs) : ∀ l : Bs, Lib.containsAny l cs = l.any (fun c => cs.contains c)
  | [] => rfl
  | c :: l => by
    have ih := containsAny_any cs l
    unfold Lib.containsAny at ih ⊢
    unfold Lib.indexAny
    by_cases hc : cs.contains c = true
    · rw [if_pos hc, List.any_cons, hc]; rfl
    · rw [if_neg hc]
      have hc' : cs.contains c = false := by simpa using hc
      rw [List.any_cons, hc', Bool.false_or, ← ih]
      have := Lib.indexAny_ge cs l
      by_cases h1 : Lib.indexAny l cs = -1
      · rw [if_pos (by simpa using h1), h1]
      · rw [if_neg (by simpa using h1)]
        rw [Bool.eq_iff_iff]; simp; omega
theorem quo_mem (c : UInt8) : ([32, 9, 35] : Bs).contains c = quoN c.toNat := by
  unfold quoN blkN
  rw [Bool.eq_iff_iff]
  simp only [List.contains_cons, List.contains_nil, Bool.or_false, Bool.or_eq_true, beq_iff_eq, decide_eq_true_eq]
  constructor
  · rintro (rfl | rfl | rfl) <;> simp
  · rintro ((h | h) | h)
    · exact .inl (UInt8.toNat_inj.1 (by simpa using (show c.toNat = 32 by omega)))
    · exact .inr (.inl (UInt8.toNat_inj.1 (by simpa using (show c.toNat = 9 by omega))))
    · exact .inr (.inr (UInt8.toNat_inj.1 (by simpa using (show c.toNat = 35 by omega))))
theorem strcontains_a {s cs : ByteArray} {h : AH} (hz : s.size ≤ 8000) (hc : cs.size ≤ 8000) (hs : ∀ (j : Nat) b, (aB s)[j]? = some b → b.toNat < 128) (hcs : ∀ (j : Nat) b, (aB cs)[j]? = some b → b.toNat < 128) :
    ACalls Tryd.prog 34 [sv s, sv cs] h fun x h' => h' = h ∧ x = .ret (bv ((aB s).any fun c => (aB cs).contains c)) := by
  refine ACalls.of_below (by kernel_rfl) fun w g vs hs' ha => ?_
  simp only [RepL, Rep] at ha
  obtain ⟨u1, us1, e1, rfl, u2, us2, rfl, rfl, rfl⟩ := ha
  obtain rfl : vs = #[.string s, .string cs] := by cases vs; simp_all
  refine (Tryd.strings_ContainsAny (fun w => by kernel_rfl) s cs w (by omega) (by omega) hs hcs).mono ?_
  rintro e w' ⟨rfl, hb⟩
  exact ⟨_, rfl, hb, by simp only [Rep]; rw [containsAny_any]; rfl⟩
theorem fieldE_ok {f : ByteArray} (h : fieldE f = 0) : (aB f).any (fun c => badN c.toNat) = false ∧ f.size ≤ 24 := by
  unfold fieldE at h
  split at h
  · cases h
  · rename_i h1
    split at h
    · cases h
    · exact ⟨by simpa using h1, by omega⟩
theorem badN_lt {n : Int} (h : badN n = false) : n < 128 := by
  unfold badN at h
  simp only [Bool.or_eq_false_iff, Bool.not_eq_false'] at h
  have h1 := h.1
  unfold plnN at h1
  simp at h1; omega
theorem fieldE_ascii {f : ByteArray} (h : fieldE f = 0) (j : Nat) (b : UInt8) (hb : (aB f)[j]? = some b) : b.toNat < 128 := by
  have h1 := (fieldE_ok h).1
  rw [List.any_eq_false] at h1
  have := h1 b (List.mem_of_getElem? hb)
  have := badN_lt (n := b.toNat) (by simpa using this)
  omega
theorem size_zero {f : ByteArray} : f = bA [] ↔ f.size = 0 := by
  constructor
  · rintro rfl; rfl
  · intro h
    rw [← bA_aB f, List.eq_nil_of_length_eq_zero (show (aB f).length = 0 from h)]
theorem lntext_a {f : ByteArray} {h : AH} (hf : fieldE f = 0) : ACalls Tryd.prog 21 [sv f] h fun x h' => h' = h ∧ x = .ret (sv (textB f)) := by
  obtain ⟨hf1, hf2⟩ := fieldE_ok hf
  refine i21 ?_
  intro N hn hlt hlA hbd
  try simp only [AV.bdL, AV.bd, and_true, true_and] at hbd
  refine w_seq ?_
  refine w_reg ?_
  refine s_val rfl (v_mv lks) pt2 ?_
  refine s_nil ?_
  refine n_seq ?_
  refine w_seq ?_
  refine w_seq ?_
  refine w_reg ?_
  refine s_val rfl (v_mv lk0) pt3 ?_
  refine s_val rfl (v_eqlS lk3 lks) pt4 ?_
  refine s_val rfl (v_mv lk4) pt5 ?_
  first | refine s_splitP gt5 pt5 pt5 (fun hg5 => ?_) (fun hg5 => ?_) | refine s_splitB gt5 pt5 pt5 (fun hg5 => ?_) (fun hg5 => ?_)
  · skip
    have hq : quoB f = true := by unfold quoB; rw [show f.size = 0 from size_zero.1 hg5]; rfl
    refine s_no gt5 pt6 ?_
    refine s_no gt5 pt7 ?_
    refine s_val rfl (v_pickT lk5 lkb) pt8 ?_
    refine s_nil ?_
    refine n_seq ?_
    refine w_condT lk8 ?_
    refine w_seq ?_
    refine w_reg ?_
    refine s_val rfl (v_mv lk0) pt9 ?_
    refine s_val rfl (v_addS lks lk9 (by rw [show (⟨#[34]⟩ : ByteArray).size = 1 from rfl]; omega)) pt10 ?_
    refine s_val rfl (v_addS lk10 lks (by rw [ByteArray.size_append, show (⟨#[34]⟩ : ByteArray).size = 1 from rfl]; omega)) pt11 ?_
    refine s_val rfl (v_mv lk11) pt2 ?_
    refine s_nil ?_
    refine n_seq ?_
    refine w_rets ?_
    refine r_thn ?_
    refine w_ret (rs1 (rr_t gt2)) ?_
    refine rt (by first | rfl | (simp only [AV.lt, AV.ltL, Ent.lt, List.all_cons, List.all_nil, Bool.and_true, Bool.and_self, decide_true, str_lt]; done) | (simp [AV.lt, AV.ltL, Ent.lt, str_lt, *]; done) | (simp [AV.lt, AV.ltL, Ent.lt, str_lt, *]; omega)) ?_
    rw [textB, if_pos hq]; rfl
  · skip
    have hz : f.size ≠ 0 := fun e => hg5 (size_zero.2 e)
    refine s_do gt5 ?_
    refine s_val rfl (v_mv lk0) pt6 ?_
    refine s_do gt5 ?_
    refine s_callp (mp1 lk6 (mp1 lks mp0)) (strcontains_a (by omega) (by decide) (fieldE_ascii hf) (by intro j b hb; have := List.mem_of_getElem? hb; revert this; show b ∈ ([32, 9, 35] : Bs) → _; simp; rintro (rfl | rfl | rfl) <;> decide)) pt7 ?_
    refine s_val rfl (v_pickF lk5 lk7) pt8 ?_
    refine s_nil ?_
    refine n_seq ?_
    refine w_condB lk8 (fun hc1 => ?_) (fun hc1 => ?_)
    · skip
      have hq : quoB f = true := by
        unfold quoB
        have : (aB f).any (fun c => ([32, 9, 35] : Bs).contains c) = true := hc1
        simp only [quo_mem] at this
        rw [this]; simp
      refine w_seq ?_
      refine w_reg ?_
      refine s_val rfl (v_mv lk0) pt9 ?_
      refine s_val rfl (v_addS lks lk9 (by rw [show (⟨#[34]⟩ : ByteArray).size = 1 from rfl]; omega)) pt10 ?_
      refine s_val rfl (v_addS lk10 lks (by rw [ByteArray.size_append, show (⟨#[34]⟩ : ByteArray).size = 1 from rfl]; omega)) pt11 ?_
      refine s_val rfl (v_mv lk11) pt2 ?_
      refine s_nil ?_
      refine n_seq ?_
      refine w_rets ?_
      refine r_thn ?_
      refine w_ret (rs1 (rr_t gt2)) ?_
      refine rt (by first | rfl | (simp only [AV.lt, AV.ltL, Ent.lt, List.all_cons, List.all_nil, Bool.and_true, Bool.and_self, decide_true, str_lt]; done) | (simp [AV.lt, AV.ltL, Ent.lt, str_lt, *]; done) | (simp [AV.lt, AV.ltL, Ent.lt, str_lt, *]; omega)) ?_
      rw [textB, if_pos hq]; rfl
    · skip
      have hq : quoB f = false := by
        unfold quoB
        have : (aB f).any (fun c => ([32, 9, 35] : Bs).contains c) = false := hc1
        simp only [quo_mem] at this
        rw [this]; simp [hz]
      refine w_skip ?_
      refine n_seq ?_
      refine w_seq ?_
      refine w_reg ?_
      refine s_val rfl (v_mv lk0) pt12 ?_
      refine s_val rfl (v_mv lk12) pt2 ?_
      refine s_nil ?_
      refine n_seq ?_
      refine w_rets ?_
      refine w_ret (rs1 (rr_t gt2)) ?_
      refine rt (by first | rfl | (simp only [AV.lt, AV.ltL, Ent.lt, List.all_cons, List.all_nil, Bool.and_true, Bool.and_self, decide_true, str_lt]; done) | (simp [AV.lt, AV.ltL, Ent.lt, str_lt, *]; done) | (simp [AV.lt, AV.ltL, Ent.lt, str_lt, *]; omega)) ?_
      rw [textB, if_neg (by simp [hq])]
theorem lnclone_a {l : List ByteArray} {full : Bool} {h : AH} (hl : l.length ≤ 3000000000000) : ACalls Tryd.prog 20 [.sl l.length 1 full (rows strC l)] h fun r h' => ∃ v, r = .ret (.own h.length v l.length) ∧ h' = h ++ [.mk v 9 1 (rows strC l)] := by
  refine n20 ?_
  intro N hn hlt hlA hbd
  try simp only [AV.bdL, AV.bd, and_true, true_and] at hbd
  refine w_seq ?_
  refine w_reg ?_
  refine s_val rfl (v_mv lkn) pt2 ?_
  refine s_nil ?_
  refine n_seq ?_
  refine w_seq ?_
  refine w_seq ?_
  refine w_reg ?_
  refine s_val rfl (v_mv lk0) pt3 ?_
  refine s_eqn lk3 (fun _ => pt4) (fun bn3 hbn3 => ?_)
  refine s_nil ?_
  refine n_seq ?_
  first | refine w_cond lk4 (fun hc1 => ?_) (fun hc1 => ?_) | refine w_condB lk4 (fun hc1 => ?_) (fun hc1 => ?_)
  · skip
    refine w_seq ?_
    refine w_reg ?_
    refine s_val rfl (v_mv lkn) pt2 ?_
    refine s_nil ?_
    refine n_seqw (ALe.own0 (d := 2) (st' := 1) (ty := 9) rfl) ?_
    refine w_rets ?_
    refine r_thn ?_
    refine w_ret (rs1 (rr_t gt2)) ?_
    have h0 : l = [] := List.eq_nil_of_length_eq_zero ((Nat.eq_zero_or_pos _).resolve_right (fun e => by have := hbn3 e; rw [hc1] at this; cases this))
    subst h0
    exact ⟨0, by simp, by simp [rows]⟩
  · skip
    refine w_skip ?_
    refine n_seq ?_
    refine w_seq ?_
    refine w_reg ?_
    refine s_eff rfl rfl (e_lit LineD_Clone_5 (hl0 hn) ha0) pt5 ?_
    refine s_val rfl (v_mv lk0) pt6 ?_
    refine s_eff rfl rfl (e_app (sc_sl lk6 (str_len _)) lk5 (hga hn rfl) rfl (by omega) (str_leaf _) (hs0 hn)) pt7 ?_
    refine s_val rfl (v_mv lk7) pt2 ?_
    refine s_nil ?_
    refine n_seq ?_
    refine w_rets ?_
    refine w_ret (rs1 (rr_t gt2)) ?_
    exact ⟨0 + 1, by simp [hn], by simp⟩
end Go.Proofs.YtgjchdhdopgkkaaDoor
