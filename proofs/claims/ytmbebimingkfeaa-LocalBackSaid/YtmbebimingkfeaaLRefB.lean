/-
  Contract on plain data: the reference's times at which clocks show what they are asked for. Condition: the table passes the check, the date is one, the second is one of a day.
-/
import Derived.Test.YtmbebimingkfeaaLRefA
set_option linter.unusedVariables false
set_option linter.unusedSimpArgs false
set_option maxRecDepth 100000
namespace Go.Proofs.Ytmbebimingkfeaa
open Go.Ab Civ
section
theorem LRefB_tk0_3 {a0 a1 a2 : AV} {l : List AV} : ((a0 :: a1 :: a2 :: l).drop 0).take 3 = [a0, a1, a2] := rfl
theorem LRefB_WhenOf_54 {τ : Operand → AV} {y0 : Operand} {x0_0 : AV} (h0 : cellsV (τ y0) = some [x0_0]) (l0 : [x0_0].all leaf = true) : fillAV τ [(0, 1, y0)] [(.v (.int .i64 0))] = some [x0_0] := by
  simp only [fillAV, h0, l0]
  rfl
theorem LRefB_tk_1 {a0 : AV} {l : List AV} : (a0 :: l).take 1 = [a0] := rfl
end
/-- datelineref.WhenOf -/
def c31 : AC := (.seq (.reg [⟨(some 3), none, (.box 26 4 (.tmp 0))⟩, ⟨(some 4), none, (.box 52 3 (.tmp 1))⟩, ⟨(some 6), none, (.mv (.const (.slice none 0 0)))⟩]) (.seq (.reg [⟨(some 15), none, (.load true 3 (.tmp 4))⟩, ⟨(some 16), none, (.call (.func 58) [(.tmp 15)])⟩, ⟨(some 17), none, (.bin .mul (.tmp 16) (.const (.int .i64 86400)))⟩, ⟨(some 18), none, (.mv (.tmp 2))⟩, ⟨(some 19), none, (.bin .add (.tmp 17) (.tmp 18))⟩, ⟨(some 7), none, (.mv (.tmp 19))⟩]) (.seq (.reg [⟨(some 8), none, (.mv (.const (.slice none 0 0)))⟩]) (.seq (.reg [⟨(some 20), none, (.call (.func 27) [])⟩, ⟨(some 9), none, (.mv (.tmp 20))⟩]) (.seq (.reg [⟨(some 21), none, (.fa 0 (.tmp 3))⟩, ⟨(some 22), none, (.fa 0 (.tmp 21))⟩, ⟨(some 23), none, (.load false 1 (.tmp 22))⟩, ⟨(some 10), none, (.mv (.tmp 23))⟩]) (.seq (.seq (.reg [⟨(some 11), none, (.mv (.const (.int .i64 0)))⟩]) (.block 0 (.loop (.seq (.seq (.reg [⟨(some 24), none, (.mv (.tmp 11))⟩, ⟨(some 25), none, (.fa 3 (.tmp 3))⟩, ⟨(some 26), none, (.load false 1 (.tmp 25))⟩, ⟨(some 27), none, (.len false (.tmp 26))⟩, ⟨(some 28), none, (.bin .leq (.tmp 24) (.tmp 27))⟩]) (.cond (.tmp 28) .skip (.exit 0))) (.seq (.block 1 (.seq (.reg [⟨(some 31), none, (.call (.func 28) [])⟩, ⟨(some 32), none, (.bin .add (.tmp 31) (.const (.int .i64 1)))⟩, ⟨(some 12), none, (.mv (.tmp 32))⟩]) (.seq (.seq (.reg [⟨(some 33), none, (.mv (.tmp 11))⟩, ⟨(some 34), none, (.fa 3 (.tmp 3))⟩, ⟨(some 35), none, (.load false 1 (.tmp 34))⟩, ⟨(some 36), none, (.len false (.tmp 35))⟩, ⟨(some 37), none, (.bin .lss (.tmp 33) (.tmp 36))⟩]) (.cond (.tmp 37) (.reg [⟨(some 38), none, (.fa 3 (.tmp 3))⟩, ⟨(some 39), none, (.load false 1 (.tmp 38))⟩, ⟨(some 40), none, (.mv (.tmp 11))⟩, ⟨(some 41), none, (.ia 4 (.tmp 39) (.tmp 40))⟩, ⟨(some 42), none, (.fa 0 (.tmp 41))⟩, ⟨(some 43), none, (.load false 1 (.tmp 42))⟩, ⟨(some 12), none, (.mv (.tmp 43))⟩]) .skip)) (.seq (.seq (.reg [⟨(some 44), none, (.mv (.tmp 7))⟩, ⟨(some 45), none, (.mv (.tmp 10))⟩, ⟨(some 46), none, (.bin .sub (.tmp 44) (.tmp 45))⟩, ⟨(some 47), none, (.mv (.tmp 9))⟩, ⟨(some 48), none, (.bin .geq (.tmp 46) (.tmp 47))⟩, ⟨(some 49), none, (.mv (.tmp 48))⟩, ⟨(some 50), (some (49, true)), (.mv (.tmp 7))⟩, ⟨(some 51), (some (49, true)), (.mv (.tmp 10))⟩, ⟨(some 52), (some (49, true)), (.bin .sub (.tmp 50) (.tmp 51))⟩, ⟨(some 53), (some (49, true)), (.mv (.tmp 12))⟩, ⟨(some 54), (some (49, true)), (.bin .lss (.tmp 52) (.tmp 53))⟩, ⟨(some 55), none, (.pick (.tmp 49) (.tmp 54) (.const (.bool false)))⟩]) (.cond (.tmp 55) (.reg [⟨(some 56), none, (.mv (.tmp 8))⟩, ⟨(some 57), none, (.mv (.tmp 7))⟩, ⟨(some 58), none, (.mv (.tmp 10))⟩, ⟨(some 59), none, (.bin .sub (.tmp 57) (.tmp 58))⟩, ⟨(some 60), none, (.lit 3 1 1 [(.v (.int .i64 0))] [(0, (1, (.tmp 59)))])⟩, ⟨(some 61), none, (.app 3 1 8 (.tmp 56) (.tmp 60))⟩, ⟨(some 8), none, (.mv (.tmp 61))⟩]) .skip)) (.seq (.reg [⟨(some 62), none, (.mv (.tmp 12))⟩, ⟨(some 9), none, (.mv (.tmp 62))⟩]) (.seq (.reg [⟨(some 63), none, (.mv (.tmp 11))⟩, ⟨(some 64), none, (.fa 3 (.tmp 3))⟩, ⟨(some 65), none, (.load false 1 (.tmp 64))⟩, ⟨(some 66), none, (.len false (.tmp 65))⟩, ⟨(some 67), none, (.bin .lss (.tmp 63) (.tmp 66))⟩]) (.cond (.tmp 67) (.reg [⟨(some 68), none, (.fa 3 (.tmp 3))⟩, ⟨(some 69), none, (.load false 1 (.tmp 68))⟩, ⟨(some 70), none, (.mv (.tmp 11))⟩, ⟨(some 71), none, (.ia 4 (.tmp 69) (.tmp 70))⟩, ⟨(some 72), none, (.fa 1 (.tmp 71))⟩, ⟨(some 73), none, (.fa 0 (.tmp 72))⟩, ⟨(some 74), none, (.load false 1 (.tmp 73))⟩, ⟨(some 10), none, (.mv (.tmp 74))⟩]) .skip))))))) (.reg [⟨(some 29), none, (.mv (.tmp 11))⟩, ⟨(some 30), none, (.bin .add (.tmp 29) (.const (.int .i64 1)))⟩, ⟨(some 11), none, (.mv (.tmp 30))⟩])))))) (.seq (.seq (.reg [⟨(some 13), none, (.mv (.const (.int .i64 1)))⟩]) (.block 2 (.loop (.seq (.seq (.reg [⟨(some 75), none, (.mv (.tmp 13))⟩, ⟨(some 76), none, (.mv (.tmp 8))⟩, ⟨(some 77), none, (.len false (.tmp 76))⟩, ⟨(some 78), none, (.bin .lss (.tmp 75) (.tmp 77))⟩]) (.cond (.tmp 78) .skip (.exit 2))) (.seq (.block 3 (.seq (.reg [⟨(some 81), none, (.mv (.tmp 13))⟩, ⟨(some 14), none, (.mv (.tmp 81))⟩]) (.block 4 (.loop (.seq (.seq (.drw [⟨(some 82), none, (.mv (.tmp 14))⟩, ⟨(some 83), none, (.bin .gtr (.tmp 82) (.const (.int .i64 0)))⟩, ⟨(some 84), none, (.mv (.tmp 83))⟩, ⟨(some 85), (some (84, true)), (.mv (.tmp 8))⟩, ⟨(some 86), (some (84, true)), (.mv (.tmp 14))⟩, ⟨(some 87), (some (84, true)), (.ia 1 (.tmp 85) (.tmp 86))⟩, ⟨(some 88), (some (84, true)), (.load false 1 (.tmp 87))⟩, ⟨(some 89), (some (84, true)), (.mv (.tmp 8))⟩, ⟨(some 90), (some (84, true)), (.mv (.tmp 14))⟩, ⟨(some 91), (some (84, true)), (.bin .sub (.tmp 90) (.const (.int .i64 1)))⟩, ⟨(some 92), (some (84, true)), (.ia 1 (.tmp 89) (.tmp 91))⟩, ⟨(some 93), (some (84, true)), (.load false 1 (.tmp 92))⟩, ⟨(some 94), (some (84, true)), (.bin .lss (.tmp 88) (.tmp 93))⟩, ⟨(some 95), none, (.pick (.tmp 84) (.tmp 94) (.const (.bool false)))⟩] [] []) (.cond (.tmp 95) .skip (.exit 4))) (.seq (.block 5 (.drw [⟨(some 98), none, (.mv (.tmp 8))⟩, ⟨(some 99), none, (.mv (.tmp 14))⟩, ⟨(some 100), none, (.mv (.tmp 8))⟩, ⟨(some 101), none, (.mv (.tmp 14))⟩, ⟨(some 102), none, (.bin .sub (.tmp 101) (.const (.int .i64 1)))⟩, ⟨(some 103), none, (.mv (.tmp 8))⟩, ⟨(some 104), none, (.mv (.tmp 14))⟩, ⟨(some 105), none, (.bin .sub (.tmp 104) (.const (.int .i64 1)))⟩, ⟨(some 106), none, (.ia 1 (.tmp 103) (.tmp 105))⟩, ⟨(some 107), none, (.load false 1 (.tmp 106))⟩, ⟨(some 108), none, (.mv (.tmp 8))⟩, ⟨(some 109), none, (.mv (.tmp 14))⟩, ⟨(some 110), none, (.ia 1 (.tmp 108) (.tmp 109))⟩, ⟨(some 111), none, (.load false 1 (.tmp 110))⟩, ⟨(some 112), none, (.ia 1 (.tmp 98) (.tmp 99))⟩] [false, false, false] [⟨none, none, (.store 1 (.tmp 112) (.tmp 107))⟩, ⟨(some 113), none, (.ia 1 (.tmp 100) (.tmp 102))⟩, ⟨none, none, (.store 1 (.tmp 113) (.tmp 111))⟩])) (.reg [⟨(some 96), none, (.mv (.tmp 14))⟩, ⟨(some 97), none, (.bin .sub (.tmp 96) (.const (.int .i64 1)))⟩, ⟨(some 14), none, (.mv (.tmp 97))⟩]))))))) (.reg [⟨(some 79), none, (.mv (.tmp 13))⟩, ⟨(some 80), none, (.bin .add (.tmp 79) (.const (.int .i64 1)))⟩, ⟨(some 13), none, (.mv (.tmp 80))⟩])))))) (.seq (.reg [⟨(some 114), none, (.mv (.tmp 8))⟩, ⟨(some 6), none, (.mv (.tmp 114))⟩]) .ret))))))))
theorem k31 : compF Try.prog 31 = some ⟨c31, [(.tmp 6)], 115⟩ := by kernel_rfl
theorem i31 {a0 a1 a2 : AV} {h : AH} {R : AE → Prop} (hw : ∀ n, h.length = n → (∀ e ∈ h, e.lt n = true) → AV.ltL n [a0, a1, a2] = true → AV.bdL [a0, a1, a2] → aw Try.prog n c31 (retA [(.tmp 6)] fun x h' => ∃ z, h' = h ++ z ∧ x.lt n = true ∧ R x) [a0, a1, a2, .any, .any, .any, .any, .any, .any, .any, .any, .any, .any, .any, .any, .any, .any, .any, .any, .any, .any, .any, .any, .any, .any, .any, .any, .any, .any, .any, .any, .any, .any, .any, .any, .any, .any, .any, .any, .any, .any, .any, .any, .any, .any, .any, .any, .any, .any, .any, .any, .any, .any, .any, .any, .any, .any, .any, .any, .any, .any, .any, .any, .any, .any, .any, .any, .any, .any, .any, .any, .any, .any, .any, .any, .any, .any, .any, .any, .any, .any, .any, .any, .any, .any, .any, .any, .any, .any, .any, .any, .any, .any, .any, .any, .any, .any, .any, .any, .any, .any, .any, .any, .any, .any, .any, .any, .any, .any, .any, .any, .any, .any, .any, .any] (h ++ [])) : ACalls Try.prog 31 [a0, a1, a2] h fun x h' => h' = h ∧ R x := ACalls.into k31 rfl hw
theorem w31 {a0 a1 a2 : AV} {h : AH} {res : AV} (hw : ∀ n, h.length = n → (∀ e ∈ h, e.lt n = true) → AV.ltL n [a0, a1, a2] = true → AV.bdL [a0, a1, a2] → aw Try.prog n c31 (retA [(.tmp 6)] fun x h' => ∃ z, h' = h ++ z ∧ x.lt n = true ∧ ∃ c, x = .ret c ∧ Wk c res) [a0, a1, a2, .any, .any, .any, .any, .any, .any, .any, .any, .any, .any, .any, .any, .any, .any, .any, .any, .any, .any, .any, .any, .any, .any, .any, .any, .any, .any, .any, .any, .any, .any, .any, .any, .any, .any, .any, .any, .any, .any, .any, .any, .any, .any, .any, .any, .any, .any, .any, .any, .any, .any, .any, .any, .any, .any, .any, .any, .any, .any, .any, .any, .any, .any, .any, .any, .any, .any, .any, .any, .any, .any, .any, .any, .any, .any, .any, .any, .any, .any, .any, .any, .any, .any, .any, .any, .any, .any, .any, .any, .any, .any, .any, .any, .any, .any, .any, .any, .any, .any, .any, .any, .any, .any, .any, .any, .any, .any, .any, .any, .any, .any, .any, .any] (h ++ [])) : ACalls Try.prog 31 [a0, a1, a2] h fun x h' => h' = h ∧ x = .ret res := ACalls.weak (ACalls.into k31 rfl hw)
theorem n31 {a0 a1 a2 : AV} {h : AH} {R : AE → AH → Prop} (hw : ∀ n, h.length = n → (∀ e ∈ h, e.lt n = true) → AV.ltL n [a0, a1, a2] = true → AV.bdL [a0, a1, a2] → aw Try.prog n c31 (retA [(.tmp 6)] R) [a0, a1, a2, .any, .any, .any, .any, .any, .any, .any, .any, .any, .any, .any, .any, .any, .any, .any, .any, .any, .any, .any, .any, .any, .any, .any, .any, .any, .any, .any, .any, .any, .any, .any, .any, .any, .any, .any, .any, .any, .any, .any, .any, .any, .any, .any, .any, .any, .any, .any, .any, .any, .any, .any, .any, .any, .any, .any, .any, .any, .any, .any, .any, .any, .any, .any, .any, .any, .any, .any, .any, .any, .any, .any, .any, .any, .any, .any, .any, .any, .any, .any, .any, .any, .any, .any, .any, .any, .any, .any, .any, .any, .any, .any, .any, .any, .any, .any, .any, .any, .any, .any, .any, .any, .any, .any, .any, .any, .any, .any, .any, .any, .any, .any, .any] (h ++ [])) : ACalls Try.prog 31 [a0, a1, a2] h R := ACalls.intoN k31 rfl hw
theorem j31 {a0 a1 a2 : AV} {h : AH} {R : AE → AH → Prop} (hw : ∀ n, h.length = n → (∀ e ∈ h, e.lt n = true) → AV.ltL n [a0, a1, a2] = true → AV.bdL [a0, a1, a2] → aw Try.prog n c31 (retA [(.tmp 6)] fun x h' => ∃ y z, h' = y ++ z ∧ y.length = n ∧ (∀ e ∈ y, e.lt n = true) ∧ x.lt n = true ∧ R x y) [a0, a1, a2, .any, .any, .any, .any, .any, .any, .any, .any, .any, .any, .any, .any, .any, .any, .any, .any, .any, .any, .any, .any, .any, .any, .any, .any, .any, .any, .any, .any, .any, .any, .any, .any, .any, .any, .any, .any, .any, .any, .any, .any, .any, .any, .any, .any, .any, .any, .any, .any, .any, .any, .any, .any, .any, .any, .any, .any, .any, .any, .any, .any, .any, .any, .any, .any, .any, .any, .any, .any, .any, .any, .any, .any, .any, .any, .any, .any, .any, .any, .any, .any, .any, .any, .any, .any, .any, .any, .any, .any, .any, .any, .any, .any, .any, .any, .any, .any, .any, .any, .any, .any, .any, .any, .any, .any, .any, .any, .any, .any, .any, .any, .any, .any] (h ++ [])) : ACalls Try.prog 31 [a0, a1, a2] h R := ACalls.intoG k31 rfl hw
/-- a list is sorted up to here, but for one that is on its way down -/
def insG (i k : Nat) (L : List Int) : Prop := ∃ A x B C, L = A ++ x :: (B ++ C) ∧ A.length = k ∧ A.length + B.length = i ∧ (A ++ B).Pairwise (· ≤ ·) ∧ ∀ b ∈ B, x ≤ b
theorem insG_start {i : Nat} {L : List Int} (h : i < L.length) (hp : (L.take i).Pairwise (· ≤ ·)) : insG i i L :=
  ⟨L.take i, L[i], [], L.drop (i + 1), by simp, by simp; omega, by simp; omega, by simpa using hp, by simp⟩
theorem insG_stop0 {i : Nat} {L : List Int} (h : insG i 0 L) : (L.take (i + 1)).Pairwise (· ≤ ·) := by
  obtain ⟨A, x, B, C, rfl, h1, h2, h3, h4⟩ := h
  obtain rfl := List.eq_nil_of_length_eq_zero h1
  simp only [List.length_nil, Nat.zero_add] at h2
  subst h2
  rw [List.nil_append, List.take_succ_cons, List.take_left]
  exact List.pairwise_cons.2 ⟨h4, by simpa using h3⟩
theorem insG_stop1 {i k : Nat} {L : List Int} (h : insG i (k + 1) L) (hk : k + 1 < L.length) (hc : ¬ L[k + 1] < L[k]) : (L.take (i + 1)).Pairwise (· ≤ ·) := by
  obtain ⟨A, x, B, C, rfl, h1, h2, h3, h4⟩ := h
  obtain ⟨A, y, rfl⟩ : ∃ A' y, A = A' ++ [y] := ⟨A.dropLast, A.getLast (by intro e; subst e; cases h1), (List.dropLast_concat_getLast _).symm⟩
  simp only [List.length_append, List.length_singleton] at h1
  obtain rfl : A.length = k := by omega
  have e1 : ((A ++ [y]) ++ x :: (B ++ C))[A.length + 1]'hk = x := by simp
  have e2 : ((A ++ [y]) ++ x :: (B ++ C))[A.length]'(by omega) = y := by simp
  rw [e1, e2] at hc
  have e3 : ((A ++ [y]) ++ x :: (B ++ C)).take (i + 1) = (A ++ [y]) ++ x :: B := by
    rw [show (A ++ [y]) ++ x :: (B ++ C) = ((A ++ [y]) ++ x :: B) ++ C by simp, List.take_left' (by simp at h2 ⊢; omega)]
  rw [e3]
  rw [List.pairwise_append] at h3 ⊢
  obtain ⟨p1, p2, p3⟩ := h3
  refine ⟨p1, List.pairwise_cons.2 ⟨h4, p2⟩, fun a ha b hb => ?_⟩
  have hay : a ≤ y := by
    rcases List.mem_append.1 ha with h | h
    · exact (List.pairwise_append.1 p1).2.2 a h y (by simp)
    · simp at h; omega
  rcases List.mem_cons.1 hb with rfl | h
  · omega
  · exact p3 a ha b h
theorem insG_step {i k : Nat} {L : List Int} (h : insG i (k + 1) L) (hk : k + 1 < L.length) (hc : L[k + 1] < L[k]) :
    insG i k ((L.set (k + 1) L[k]).set k L[k + 1]) ∧ ((L.set (k + 1) L[k]).set k L[k + 1]).Perm L := by
  obtain ⟨A, x, B, C, rfl, h1, h2, h3, h4⟩ := h
  obtain ⟨A, y, rfl⟩ : ∃ A' y, A = A' ++ [y] := ⟨A.dropLast, A.getLast (by intro e; subst e; cases h1), (List.dropLast_concat_getLast _).symm⟩
  simp only [List.length_append, List.length_singleton] at h1
  obtain rfl : A.length = k := by omega
  have e1 : ((A ++ [y]) ++ x :: (B ++ C))[A.length + 1]'hk = x := by simp
  have e2 : ((A ++ [y]) ++ x :: (B ++ C))[A.length]'(by omega) = y := by simp
  rw [e1, e2] at hc ⊢
  have e3 : (((A ++ [y]) ++ x :: (B ++ C)).set (A.length + 1) y).set A.length x = A ++ x :: y :: (B ++ C) := by
    simp
  rw [e3]
  refine ⟨⟨A, x, y :: B, C, by simp, rfl, by simp at h2 ⊢; omega, by simpa using h3, fun b hb => ?_⟩, ?_⟩
  · rcases List.mem_cons.1 hb with rfl | h
    · omega
    · exact h4 b h
  · simp only [List.append_assoc, List.singleton_append]
    exact (List.Perm.swap y x _).append_left A
theorem rwhenOf_a {t : Tab} {y m d s : Int} {full : Bool} {h : AH} (hv : checkT t = 0) (hd : isDate y m d = true) (hs0 : 0 ≤ s) (hs1 : s < 86400) :
    ACalls Try.prog 31 [.agg [iv t.1.1, iv t.1.2.1, sv t.1.2.2, .sl t.2.length 4 full (rows chgC t.2)], .agg [iv y, iv m, iv d], iv s] h fun x h' => h' = h ∧ x = .ret (.sl (whenL t (num y m d * 86400 + s)).length 1 false (rows intC (whenL t (num y m d * 86400 + s)))) := by
  have hl := checkT_len hv
  have hnb := num_bd hd
  have hdi := isDate_iff.1 hd
  have hml := mlen_bd y m
  obtain ⟨K, hK⟩ : ∃ K, K = num y m d * 86400 + s := ⟨_, rfl⟩
  obtain ⟨_, hL1, hL2⟩ := checkT_all hv
  have hsf := (locE_ok hL1).1
  have hst : ∀ k (hk : k < t.2.length), -75600 ≤ (t.2[k]).2.1 ∧ (t.2[k]).2.1 ≤ 75600 := fun k hk => (locE_ok (hL2 _ (List.getElem_mem hk)).2).1
  rw [← hK]
  refine i31 ?_
  intro N hn hlt hlA hbd
  try simp only [AV.bdL, AV.bd, and_true, true_and] at hbd
  refine w_seq ?_
  refine w_reg ?_
  refine s_eff rfl rfl (e_box (cvl lk0 rfl) rfl (hl0 hn) ha0) pt3 ?_
  refine s_eff rfl rfl (e_box (cvl lk1 rfl) rfl (hl1 hn) ha1) pt4 ?_
  refine s_val rfl (v_mv lkn) pt6 ?_
  refine s_nil ?_
  refine n_seq ?_
  refine w_seq ?_
  refine w_reg ?_
  refine s_val rfl (v_loadpA lk4 (hga hn rfl) LRefB_tk0_3 rfl) pt15 ?_
  refine s_callp (mp1 lk15 mp0) (rdaysOf_a (by first | assumption | omega) (by first | assumption | omega) (by first | assumption | omega) (by first | assumption | omega) (by first | assumption | omega) (by first | assumption | omega)) pt16 ?_
  refine s_val rfl (v_mul lk16 lki (by omega) (by omega)) pt17 ?_
  refine s_val rfl (v_mv lk2) pt18 ?_
  refine s_val rfl (v_add lk17 lk18 (by omega) (by omega)) pt19 ?_
  refine s_val rfl (v_mv lk19) pt7 ?_
  refine s_nil ?_
  refine n_seq ?_
  refine w_seq ?_
  refine w_reg ?_
  refine s_val rfl (v_mv lkn) pt8 ?_
  refine s_nil ?_
  refine n_seqw (ALe.own0' (st' := 1) (ty := 3) gt8 (hl2 hn) pt8 ha2) ?_
  refine w_seq ?_
  refine w_reg ?_
  refine s_callp mp0 (rleastAt_a) pt20 ?_
  refine s_val rfl (v_mv lk20) pt9 ?_
  refine s_nil ?_
  refine n_seq ?_
  refine w_seq ?_
  refine w_reg ?_
  refine s_val rfl (v_fap0 lk3) pt21 ?_
  refine s_val rfl (v_fap0 lk21) pt22 ?_
  refine s_val rfl (v_loadp lk22 (hga hn rfl) gt0) pt23 ?_
  refine s_val rfl (v_mv lk23) pt10 ?_
  refine s_nil ?_
  refine n_seq ?_
  refine w_seq ?_
  refine w_seq ?_
  refine w_reg ?_
  refine s_val rfl (v_mv lki) pt11 ?_
  refine s_nil ?_
  refine n_seq ?_
  refine w_block ?_
  refine w_loop (ι := Nat × List Int × Int × Int × Nat) (fun (x_ : Nat × List Int × Int × Int × Nat) => match x_ with | ⟨i, O, f, sh, v⟩ => [(8, .own (N + 2) v O.length), (9, iv f), (10, iv sh), (11, iv (i : Int)), (12, .any), (24, .any), (25, .any), (26, .any), (27, .any), (28, .any), (29, .any), (30, .any), (31, .any), (32, .any), (33, .any), (34, .any), (35, .any), (36, .any), (37, .any), (38, .any), (39, .any), (40, .any), (41, .any), (42, .any), (43, .any), (44, .any), (45, .any), (46, .any), (47, .any), (48, .any), (49, .any), (50, .any), (51, .any), (52, .any), (53, .any), (54, .any), (55, .any), (56, .any), (57, .any), (58, .any), (59, .any), (60, .any), (61, .any), (62, .any), (63, .any), (64, .any), (65, .any), (66, .any), (67, .any), (68, .any), (69, .any), (70, .any), (71, .any), (72, .any), (73, .any), (74, .any)]) (fun (x_ : Nat × List Int × Int × Int × Nat) => match x_ with | ⟨i, O, f, sh, v⟩ => [(2, .mk v 3 1 (rows intC O))]) (fun (x_ : Nat × List Int × Int × Int × Nat) => match x_ with | ⟨i, O, f, sh, v⟩ => i ≤ t.2.length + 1 ∧ (i ≤ t.2.length → spA t K = O ++ spL K f sh (t.2.drop i)) ∧ (i = t.2.length + 1 → spA t K = O) ∧ O.length ≤ i ∧ -75600 ≤ sh ∧ sh ≤ 75600) (fun (x_ : Nat × List Int × Int × Int × Nat) => match x_ with | ⟨i, O, f, sh, v⟩ => t.2.length + 1 - i) (⟨0, [], -62135596800, t.1.1, 0⟩) (by exact ⟨by omega, fun _ => rfl, fun e => by omega, Nat.le_refl _, hsf.1, hsf.2⟩) (by try simp only [setsT, setsE, List.set_cons_zero, List.set_cons_succ]; exact ALe.same (wk1 rfl (wk1 rfl (wk1 rfl (wk1 rfl (wk1 rfl (wk1 rfl (wk1 rfl (wk1 rfl (wk1 (by first | rfl | exact ivx (by omega) | (simp; done)) (wk1 (by first | rfl | exact ivx (by omega) | (simp; done)) (wk1 (by first | rfl | exact ivx (by omega) | (simp; done)) (wk1 (by first | rfl | exact ivx (by omega) | (simp; done)) (wka (wk1 rfl (wk1 rfl (wk1 rfl (wk1 rfl (wk1 rfl (wk1 rfl (wk1 rfl (wk1 rfl (wk1 rfl (wk1 rfl (wk1 rfl (wka (wka (wka (wka (wka (wka (wka (wka (wka (wka (wka (wka (wka (wka (wka (wka (wka (wka (wka (wka (wka (wka (wka (wka (wka (wka (wka (wka (wka (wka (wka (wka (wka (wka (wka (wka (wka (wka (wka (wka (wka (wka (wka (wka (wka (wka (wka (wka (wka (wka (wka (wk1 rfl (wk1 rfl (wk1 rfl (wk1 rfl (wk1 rfl (wk1 rfl (wk1 rfl (wk1 rfl (wk1 rfl (wk1 rfl (wk1 rfl (wk1 rfl (wk1 rfl (wk1 rfl (wk1 rfl (wk1 rfl (wk1 rfl (wk1 rfl (wk1 rfl (wk1 rfl (wk1 rfl (wk1 rfl (wk1 rfl (wk1 rfl (wk1 rfl (wk1 rfl (wk1 rfl (wk1 rfl (wk1 rfl (wk1 rfl (wk1 rfl (wk1 rfl (wk1 rfl (wk1 rfl (wk1 rfl (wk1 rfl (wk1 rfl (wk1 rfl (wk1 rfl (wk1 rfl wk0))))))))))))))))))))))))))))))))))))))))))))))))))))))))))))))))))))))))))))))))))))))))))))))))))))))))))))))))))) rfl) ?_
  rintro ⟨i, O, f, sh, v⟩ hi1
  try simp only [setsT, setsE, List.set_cons_zero, List.set_cons_succ]
  obtain ⟨hj1, hj2, hj3, hj4, hj5, hj6⟩ := hi1
  refine w_seq ?_
  refine w_seq ?_
  refine w_reg ?_
  refine s_val rfl (v_mv lk11) pt24 ?_
  refine s_val rfl (v_fap0 lk3) pt25 ?_
  refine s_val rfl (v_loadp lk25 (hga hn rfl) gt3) pt26 ?_
  refine s_val rfl (v_lenL lk26) pt27 ?_
  refine s_val rfl (v_leq lk24 lk27) pt28 ?_
  refine s_nil ?_
  refine n_seq ?_
  first | refine w_cond lk28 (fun hc1 => ?_) (fun hc1 => ?_) | refine w_condB lk28 (fun hc1 => ?_) (fun hc1 => ?_)
  · skip
    have hi : i ≤ t.2.length := by omega
    have hE := hj2 hi
    refine w_skip ?_
    refine n_seq ?_
    refine w_seq ?_
    refine w_block ?_
    refine w_seq ?_
    refine w_reg ?_
    refine s_callp mp0 (rmostAt_a) pt31 ?_
    refine s_val rfl (v_add lk31 lki (by omega) (by omega)) pt32 ?_
    refine s_val rfl (v_mv lk32) pt12 ?_
    refine s_nil ?_
    refine n_seq ?_
    refine w_seq ?_
    refine w_seq ?_
    refine w_reg ?_
    refine s_val rfl (v_mv lk11) pt33 ?_
    refine s_val rfl (v_fap0 lk3) pt34 ?_
    refine s_val rfl (v_loadp lk34 (hga hn rfl) gt3) pt35 ?_
    refine s_val rfl (v_lenL lk35) pt36 ?_
    refine s_val rfl (v_lss lk33 lk36) pt37 ?_
    refine s_nil ?_
    refine n_seq ?_
    first | refine w_cond lk37 (fun hc2 => ?_) (fun hc2 => ?_) | refine w_condB lk37 (fun hc2 => ?_) (fun hc2 => ?_)
    · skip
      have hz1 : i < t.2.length := by omega
      have hsc := hst i hz1
      have hdr : t.2.drop i = t.2[i] :: t.2.drop (i + 1) := List.drop_eq_getElem_cons hz1
      obtain ⟨fN, hfN⟩ : ∃ x, x = (t.2[i]).1 := ⟨_, rfl⟩
      obtain ⟨sN, hsN⟩ : ∃ x, x = (t.2[i]).2.1 := ⟨_, rfl⟩
      rw [hdr, spL, ← hfN, ← hsN] at hE
      have hF : i + 1 = t.2.length + 1 → spL K fN sN (t.2.drop (i + 1)) = [] := fun e => by omega
      refine w_reg ?_
      refine s_val rfl (v_fap0 lk3) pt38 ?_
      refine s_val rfl (v_loadp lk38 (hga hn rfl) gt3) pt39 ?_
      refine s_val rfl (v_mv lk11) pt40 ?_
      refine s_val rfl (v_iaR lk39 lk40 chg_len1 (Nat.le_of_ble_eq_true rfl) (by first | rfl | omega) (by omega) (by first | rfl | omega) rfl) pt41 ?_
      refine s_val rfl (v_far lk41 dp0) pt42 ?_
      refine s_val rfl (v_loadr lk42 gt0) pt43 ?_
      refine s_val rfl (v_mv lk43) pt12 ?_
      refine s_nil ?_
      refine n_seq ?_
      refine w_seq ?_
      refine w_seq ?_
      refine w_reg ?_
      refine s_val rfl (v_mv lk7) pt44 ?_
      refine s_val rfl (v_mv lk10) pt45 ?_
      refine s_val rfl (v_sub lk44 lk45 (by omega) (by omega)) pt46 ?_
      refine s_val rfl (v_mv lk9) pt47 ?_
      refine s_val rfl (v_geq lk46 lk47) pt48 ?_
      refine s_val rfl (v_mv lk48) pt49 ?_
      first | refine s_splitP gt49 pt49 pt49 (fun hg49 => ?_) (fun hg49 => ?_) | refine s_splitB gt49 pt49 pt49 (fun hg49 => ?_) (fun hg49 => ?_)
      · skip
        refine s_do gt49 ?_
        refine s_val rfl (v_mv lk7) pt50 ?_
        refine s_do gt49 ?_
        refine s_val rfl (v_mv lk10) pt51 ?_
        refine s_do gt49 ?_
        refine s_val rfl (v_sub lk50 lk51 (by omega) (by omega)) pt52 ?_
        refine s_do gt49 ?_
        refine s_val rfl (v_mv lk12) pt53 ?_
        refine s_do gt49 ?_
        refine s_val rfl (v_lss lk52 lk53) pt54 ?_
        refine s_val rfl (v_pickT lk49 lk54) pt55 ?_
        refine s_nil ?_
        refine n_seq ?_
        first | refine w_cond lk55 (fun hc3 => ?_) (fun hc3 => ?_) | refine w_condB lk55 (fun hc3 => ?_) (fun hc3 => ?_)
        · skip
          rw [if_pos (by omega)] at hE
          refine w_reg ?_
          refine s_val rfl (v_mv lk8) pt56 ?_
          refine s_val rfl (v_mv lk7) pt57 ?_
          refine s_val rfl (v_mv lk10) pt58 ?_
          refine s_val rfl (v_sub lk57 lk58 (by omega) (by omega)) pt59 ?_
          refine s_eff rfl rfl (e_lit (LRefB_WhenOf_54 (cvl lk59 rfl) rfl) (hl3 hn) ha3) pt60 ?_
          refine s_eff rfl rfl (e_app (sc_own lk60 (hga hn rfl) rfl LRefB_tk_1 (Nat.le_of_ble_eq_true rfl)) lk56 (hga hn rfl) (int_len _) (by omega) rfl (hs2 hn)) pt61 ?_
          refine s_val rfl (v_mv lk61) pt8 ?_
          refine s_nil ?_
          refine n_seq ?_
          refine w_seq ?_
          refine w_reg ?_
          refine s_val rfl (v_mv lk12) pt62 ?_
          refine s_val rfl (v_mv lk62) pt9 ?_
          refine s_nil ?_
          refine n_seq ?_
          refine w_seq ?_
          refine w_reg ?_
          refine s_val rfl (v_mv lk11) pt63 ?_
          refine s_val rfl (v_fap0 lk3) pt64 ?_
          refine s_val rfl (v_loadp lk64 (hga hn rfl) gt3) pt65 ?_
          refine s_val rfl (v_lenL lk65) pt66 ?_
          refine s_val rfl (v_lss lk63 lk66) pt67 ?_
          refine s_nil ?_
          refine n_seq ?_
          refine w_condK lk67 (by exact decide_eq_true (by omega)) ?_
          refine w_reg ?_
          refine s_val rfl (v_fap0 lk3) pt68 ?_
          refine s_val rfl (v_loadp lk68 (hga hn rfl) gt3) pt69 ?_
          refine s_val rfl (v_mv lk11) (ptS pt0) ?_
          refine s_val rfl (v_iaR lk69 (lkS lk0) chg_len1 (Nat.le_of_ble_eq_true rfl) (by first | rfl | omega) (by omega) (by first | rfl | omega) rfl) (ptS pt1) ?_
          refine s_val rfl (v_far (lkS lk1) dp1) (ptS pt2) ?_
          refine s_val rfl (v_far (lkS lk2) dp0) (ptS pt3) ?_
          refine s_val rfl (v_loadr (lkS lk3) gt0) (ptS pt4) ?_
          refine s_val rfl (v_mv (lkS lk4)) pt10 ?_
          refine s_nil ?_
          refine n_blk ?_
          refine n_seq ?_
          refine w_reg ?_
          refine s_val rfl (v_mv lk11) pt29 ?_
          refine s_val rfl (v_add lk29 lki (by omega) (by omega)) pt30 ?_
          refine s_val rfl (v_mv lk30) pt11 ?_
          refine s_nil ?_
          refine n_thn ?_
          refine LoopTo.mk (⟨i + 1, O ++ [K - sh], fN, sN, v + 1⟩) (by omega) (by (try dsimp only); exact ⟨by omega, fun e => by first | (rw [hE, List.append_assoc]; done) | (rw [hE, ← hF e, List.append_assoc]; done), fun e => by first | (rw [hE, hF e]; simp; done) | (rw [hE]; simp; done), by simp; omega, by omega, by omega⟩) (by (try dsimp only); (try simp only [setsT, setsE, List.set_cons_zero, List.set_cons_succ]); exact ALe.back (wk1 rfl (wk1 rfl (wk1 rfl (wk1 rfl (wk1 rfl (wk1 rfl (wk1 rfl (wk1 rfl (wk1 (by first | rfl | exact ivx (by omega) | (rw [List.length_append]; rfl)) (wk1 (by first | rfl | exact ivx (by omega) | (rw [List.length_append]; rfl)) (wk1 (by first | rfl | exact ivx (by omega) | (rw [List.length_append]; rfl)) (wk1 (by first | rfl | exact ivx (by omega) | (rw [List.length_append]; rfl)) (wka (wk1 rfl (wk1 rfl (wk1 rfl (wk1 rfl (wk1 rfl (wk1 rfl (wk1 rfl (wk1 rfl (wk1 rfl (wk1 rfl (wk1 rfl (wka (wka (wka (wka (wka (wka (wka (wka (wka (wka (wka (wka (wka (wka (wka (wka (wka (wka (wka (wka (wka (wka (wka (wka (wka (wka (wka (wka (wka (wka (wka (wka (wka (wka (wka (wka (wka (wka (wka (wka (wka (wka (wka (wka (wka (wka (wka (wka (wka (wka (wka (wk1 rfl (wk1 rfl (wk1 rfl (wk1 rfl (wk1 rfl (wk1 rfl (wk1 rfl (wk1 rfl (wk1 rfl (wk1 rfl (wk1 rfl (wk1 rfl (wk1 rfl (wk1 rfl (wk1 rfl (wk1 rfl (wk1 rfl (wk1 rfl (wk1 rfl (wk1 rfl (wk1 rfl (wk1 rfl (wk1 rfl (wk1 rfl (wk1 rfl (wk1 rfl (wk1 rfl (wk1 rfl (wk1 rfl (wk1 rfl (wk1 rfl (wk1 rfl (wk1 rfl (wk1 rfl (wk1 rfl (wk1 rfl (wk1 rfl (wk1 rfl (wk1 rfl (wk1 rfl wk0))))))))))))))))))))))))))))))))))))))))))))))))))))))))))))))))))))))))))))))))))))))))))))))))))))))))))))))))))) (by simp only [rows_app, rows_one, intC, hK]; try rfl) (k := N + 3) (by simp only [List.length_cons, List.length_nil, hn]) (by omega) (by first | rfl | (simp only [AV.lt, AV.ltL, Ent.lt, List.all_cons, List.all_nil, Bool.and_true, Bool.and_self, decide_true, chg_lt, int_lt]; done) | (simp [AV.lt, AV.ltL, Ent.lt, chg_lt, int_lt, *]; done) | (simp [AV.lt, AV.ltL, Ent.lt, chg_lt, int_lt, *]; omega)) (ltw (by omega) hlt) (by first | rfl | (simp only [AV.lt, AV.ltL, Ent.lt, List.all_cons, List.all_nil, Bool.and_true, Bool.and_self, decide_true, chg_lt, int_lt]; done) | (simp [AV.lt, AV.ltL, Ent.lt, chg_lt, int_lt, *]; done) | (simp [AV.lt, AV.ltL, Ent.lt, chg_lt, int_lt, *]; omega)))
        · skip
          rw [if_neg (by omega), List.nil_append] at hE
          refine w_skip ?_
          refine n_seq ?_
          refine w_seq ?_
          refine w_reg ?_
          refine s_val rfl (v_mv lk12) pt62 ?_
          refine s_val rfl (v_mv lk62) pt9 ?_
          refine s_nil ?_
          refine n_seq ?_
          refine w_seq ?_
          refine w_reg ?_
          refine s_val rfl (v_mv lk11) pt63 ?_
          refine s_val rfl (v_fap0 lk3) pt64 ?_
          refine s_val rfl (v_loadp lk64 (hga hn rfl) gt3) pt65 ?_
          refine s_val rfl (v_lenL lk65) pt66 ?_
          refine s_val rfl (v_lss lk63 lk66) pt67 ?_
          refine s_nil ?_
          refine n_seq ?_
          refine w_condK lk67 (by exact decide_eq_true (by omega)) ?_
          refine w_reg ?_
          refine s_val rfl (v_fap0 lk3) pt68 ?_
          refine s_val rfl (v_loadp lk68 (hga hn rfl) gt3) pt69 ?_
          refine s_val rfl (v_mv lk11) (ptS pt0) ?_
          refine s_val rfl (v_iaR lk69 (lkS lk0) chg_len1 (Nat.le_of_ble_eq_true rfl) (by first | rfl | omega) (by omega) (by first | rfl | omega) rfl) (ptS pt1) ?_
          refine s_val rfl (v_far (lkS lk1) dp1) (ptS pt2) ?_
          refine s_val rfl (v_far (lkS lk2) dp0) (ptS pt3) ?_
          refine s_val rfl (v_loadr (lkS lk3) gt0) (ptS pt4) ?_
          refine s_val rfl (v_mv (lkS lk4)) pt10 ?_
          refine s_nil ?_
          refine n_blk ?_
          refine n_seq ?_
          refine w_reg ?_
          refine s_val rfl (v_mv lk11) pt29 ?_
          refine s_val rfl (v_add lk29 lki (by omega) (by omega)) pt30 ?_
          refine s_val rfl (v_mv lk30) pt11 ?_
          refine s_nil ?_
          refine n_thn ?_
          refine LoopTo.mk (⟨i + 1, O, fN, sN, v⟩) (by omega) (by (try dsimp only); exact ⟨by omega, fun e => by first | exact hE | exact hE.trans (by rw [← hF e]) | exact hE.trans (by rw [← hF e, List.append_assoc]), fun e => by first | exact hE.trans (by rw [hF e, List.append_nil]) | exact hE.trans (by rw [List.append_nil]), by first | omega | (simp; omega), by omega, by omega⟩) (by (try dsimp only); (try simp only [setsT, setsE, List.set_cons_zero, List.set_cons_succ]); exact ALe.same (wk1 rfl (wk1 rfl (wk1 rfl (wk1 rfl (wk1 rfl (wk1 rfl (wk1 rfl (wk1 rfl (wk1 (by first | rfl | exact ivx (by omega) | (rw [List.length_append]; rfl)) (wk1 (by first | rfl | exact ivx (by omega) | (rw [List.length_append]; rfl)) (wk1 (by first | rfl | exact ivx (by omega) | (rw [List.length_append]; rfl)) (wk1 (by first | rfl | exact ivx (by omega) | (rw [List.length_append]; rfl)) (wka (wk1 rfl (wk1 rfl (wk1 rfl (wk1 rfl (wk1 rfl (wk1 rfl (wk1 rfl (wk1 rfl (wk1 rfl (wk1 rfl (wk1 rfl (wka (wka (wka (wka (wka (wka (wka (wka (wka (wka (wka (wka (wka (wka (wka (wka (wka (wka (wka (wka (wka (wka (wka (wka (wka (wka (wka (wka (wka (wka (wka (wka (wka (wka (wka (wka (wka (wka (wka (wka (wka (wka (wka (wka (wka (wka (wka (wka (wka (wka (wka (wk1 rfl (wk1 rfl (wk1 rfl (wk1 rfl (wk1 rfl (wk1 rfl (wk1 rfl (wk1 rfl (wk1 rfl (wk1 rfl (wk1 rfl (wk1 rfl (wk1 rfl (wk1 rfl (wk1 rfl (wk1 rfl (wk1 rfl (wk1 rfl (wk1 rfl (wk1 rfl (wk1 rfl (wk1 rfl (wk1 rfl (wk1 rfl (wk1 rfl (wk1 rfl (wk1 rfl (wk1 rfl (wk1 rfl (wk1 rfl (wk1 rfl (wk1 rfl (wk1 rfl (wk1 rfl (wk1 rfl (wk1 rfl (wk1 rfl (wk1 rfl (wk1 rfl (wk1 rfl wk0))))))))))))))))))))))))))))))))))))))))))))))))))))))))))))))))))))))))))))))))))))))))))))))))))))))))))))))))))) (by simp only [rows_app, rows_one, intC, hK]; try rfl))
      · skip
        rw [if_neg (by omega), List.nil_append] at hE
        refine s_no gt49 pt50 ?_
        refine s_no gt49 pt51 ?_
        refine s_no gt49 pt52 ?_
        refine s_no gt49 pt53 ?_
        refine s_no gt49 pt54 ?_
        refine s_val rfl (v_pickF lk49 lkb) pt55 ?_
        refine s_nil ?_
        refine n_seq ?_
        refine w_condF lk55 ?_
        refine w_skip ?_
        refine n_seq ?_
        refine w_seq ?_
        refine w_reg ?_
        refine s_val rfl (v_mv lk12) pt62 ?_
        refine s_val rfl (v_mv lk62) pt9 ?_
        refine s_nil ?_
        refine n_seq ?_
        refine w_seq ?_
        refine w_reg ?_
        refine s_val rfl (v_mv lk11) pt63 ?_
        refine s_val rfl (v_fap0 lk3) pt64 ?_
        refine s_val rfl (v_loadp lk64 (hga hn rfl) gt3) pt65 ?_
        refine s_val rfl (v_lenL lk65) pt66 ?_
        refine s_val rfl (v_lss lk63 lk66) pt67 ?_
        refine s_nil ?_
        refine n_seq ?_
        refine w_condK lk67 (by exact decide_eq_true (by omega)) ?_
        refine w_reg ?_
        refine s_val rfl (v_fap0 lk3) pt68 ?_
        refine s_val rfl (v_loadp lk68 (hga hn rfl) gt3) pt69 ?_
        refine s_val rfl (v_mv lk11) (ptS pt0) ?_
        refine s_val rfl (v_iaR lk69 (lkS lk0) chg_len1 (Nat.le_of_ble_eq_true rfl) (by first | rfl | omega) (by omega) (by first | rfl | omega) rfl) (ptS pt1) ?_
        refine s_val rfl (v_far (lkS lk1) dp1) (ptS pt2) ?_
        refine s_val rfl (v_far (lkS lk2) dp0) (ptS pt3) ?_
        refine s_val rfl (v_loadr (lkS lk3) gt0) (ptS pt4) ?_
        refine s_val rfl (v_mv (lkS lk4)) pt10 ?_
        refine s_nil ?_
        refine n_blk ?_
        refine n_seq ?_
        refine w_reg ?_
        refine s_val rfl (v_mv lk11) pt29 ?_
        refine s_val rfl (v_add lk29 lki (by omega) (by omega)) pt30 ?_
        refine s_val rfl (v_mv lk30) pt11 ?_
        refine s_nil ?_
        refine n_thn ?_
        refine LoopTo.mk (⟨i + 1, O, fN, sN, v⟩) (by omega) (by (try dsimp only); exact ⟨by omega, fun e => by first | exact hE | exact hE.trans (by rw [← hF e]) | exact hE.trans (by rw [← hF e, List.append_assoc]), fun e => by first | exact hE.trans (by rw [hF e, List.append_nil]) | exact hE.trans (by rw [List.append_nil]), by first | omega | (simp; omega), by omega, by omega⟩) (by (try dsimp only); (try simp only [setsT, setsE, List.set_cons_zero, List.set_cons_succ]); exact ALe.same (wk1 rfl (wk1 rfl (wk1 rfl (wk1 rfl (wk1 rfl (wk1 rfl (wk1 rfl (wk1 rfl (wk1 (by first | rfl | exact ivx (by omega) | (rw [List.length_append]; rfl)) (wk1 (by first | rfl | exact ivx (by omega) | (rw [List.length_append]; rfl)) (wk1 (by first | rfl | exact ivx (by omega) | (rw [List.length_append]; rfl)) (wk1 (by first | rfl | exact ivx (by omega) | (rw [List.length_append]; rfl)) (wka (wk1 rfl (wk1 rfl (wk1 rfl (wk1 rfl (wk1 rfl (wk1 rfl (wk1 rfl (wk1 rfl (wk1 rfl (wk1 rfl (wk1 rfl (wka (wka (wka (wka (wka (wka (wka (wka (wka (wka (wka (wka (wka (wka (wka (wka (wka (wka (wka (wka (wka (wka (wka (wka (wka (wka (wka (wka (wka (wka (wka (wka (wka (wka (wka (wka (wka (wka (wka (wka (wka (wka (wka (wka (wka (wka (wka (wka (wka (wka (wka (wk1 rfl (wk1 rfl (wk1 rfl (wk1 rfl (wk1 rfl (wk1 rfl (wk1 rfl (wk1 rfl (wk1 rfl (wk1 rfl (wk1 rfl (wk1 rfl (wk1 rfl (wk1 rfl (wk1 rfl (wk1 rfl (wk1 rfl (wk1 rfl (wk1 rfl (wk1 rfl (wk1 rfl (wk1 rfl (wk1 rfl (wk1 rfl (wk1 rfl (wk1 rfl (wk1 rfl (wk1 rfl (wk1 rfl (wk1 rfl (wk1 rfl (wk1 rfl (wk1 rfl (wk1 rfl (wk1 rfl (wk1 rfl (wk1 rfl (wk1 rfl (wk1 rfl (wk1 rfl wk0))))))))))))))))))))))))))))))))))))))))))))))))))))))))))))))))))))))))))))))))))))))))))))))))))))))))))))))))))) (by simp only [rows_app, rows_one, intC, hK]; try rfl))
    · skip
      have hil : i = t.2.length := by omega
      obtain ⟨fN, hfN⟩ : ∃ x : Int, x = 253402300800 := ⟨_, rfl⟩
      obtain ⟨sN, hsN⟩ : ∃ x, x = sh := ⟨_, rfl⟩
      rw [List.drop_of_length_le (by omega), spL, ← hfN, ← List.append_nil (ite _ _ _)] at hE
      have hF : i + 1 ≤ t.2.length → ([] : List Int) = spL K fN sN (t.2.drop (i + 1)) := fun e => by omega
      refine w_skip ?_
      refine n_seq ?_
      refine w_seq ?_
      refine w_seq ?_
      refine w_reg ?_
      refine s_val rfl (v_mv lk7) pt44 ?_
      refine s_val rfl (v_mv lk10) pt45 ?_
      refine s_val rfl (v_sub lk44 lk45 (by omega) (by omega)) pt46 ?_
      refine s_val rfl (v_mv lk9) pt47 ?_
      refine s_val rfl (v_geq lk46 lk47) pt48 ?_
      refine s_val rfl (v_mv lk48) pt49 ?_
      first | refine s_splitP gt49 pt49 pt49 (fun hg49 => ?_) (fun hg49 => ?_) | refine s_splitB gt49 pt49 pt49 (fun hg49 => ?_) (fun hg49 => ?_)
      · skip
        refine s_do gt49 ?_
        refine s_val rfl (v_mv lk7) pt50 ?_
        refine s_do gt49 ?_
        refine s_val rfl (v_mv lk10) pt51 ?_
        refine s_do gt49 ?_
        refine s_val rfl (v_sub lk50 lk51 (by omega) (by omega)) pt52 ?_
        refine s_do gt49 ?_
        refine s_val rfl (v_mv lk12) pt53 ?_
        refine s_do gt49 ?_
        refine s_val rfl (v_lss lk52 lk53) pt54 ?_
        refine s_val rfl (v_pickT lk49 lk54) pt55 ?_
        refine s_nil ?_
        refine n_seq ?_
        first | refine w_cond lk55 (fun hc3 => ?_) (fun hc3 => ?_) | refine w_condB lk55 (fun hc3 => ?_) (fun hc3 => ?_)
        · skip
          rw [if_pos (by omega)] at hE
          refine w_reg ?_
          refine s_val rfl (v_mv lk8) pt56 ?_
          refine s_val rfl (v_mv lk7) pt57 ?_
          refine s_val rfl (v_mv lk10) pt58 ?_
          refine s_val rfl (v_sub lk57 lk58 (by omega) (by omega)) pt59 ?_
          refine s_eff rfl rfl (e_lit (LRefB_WhenOf_54 (cvl lk59 rfl) rfl) (hl3 hn) ha3) pt60 ?_
          refine s_eff rfl rfl (e_app (sc_own lk60 (hga hn rfl) rfl LRefB_tk_1 (Nat.le_of_ble_eq_true rfl)) lk56 (hga hn rfl) (int_len _) (by omega) rfl (hs2 hn)) pt61 ?_
          refine s_val rfl (v_mv lk61) pt8 ?_
          refine s_nil ?_
          refine n_seq ?_
          refine w_seq ?_
          refine w_reg ?_
          refine s_val rfl (v_mv lk12) pt62 ?_
          refine s_val rfl (v_mv lk62) pt9 ?_
          refine s_nil ?_
          refine n_seq ?_
          refine w_seq ?_
          refine w_reg ?_
          refine s_val rfl (v_mv lk11) pt63 ?_
          refine s_val rfl (v_fap0 lk3) pt64 ?_
          refine s_val rfl (v_loadp lk64 (hga hn rfl) gt3) pt65 ?_
          refine s_val rfl (v_lenL lk65) pt66 ?_
          refine s_val rfl (v_lss lk63 lk66) pt67 ?_
          refine s_nil ?_
          refine n_seq ?_
          refine w_condKF lk67 (by exact decide_eq_false (by omega)) ?_
          refine w_skip ?_
          refine n_blk ?_
          refine n_seq ?_
          refine w_reg ?_
          refine s_val rfl (v_mv lk11) pt29 ?_
          refine s_val rfl (v_add lk29 lki (by omega) (by omega)) pt30 ?_
          refine s_val rfl (v_mv lk30) pt11 ?_
          refine s_nil ?_
          refine n_thn ?_
          refine LoopTo.mk (⟨i + 1, O ++ [K - sh], fN, sN, v + 1⟩) (by omega) (by (try dsimp only); exact ⟨by omega, fun e => by first | (rw [hE, List.append_assoc]; done) | (rw [hE, ← hF e, List.append_assoc]; done), fun e => by first | (rw [hE, hF e]; simp; done) | (rw [hE]; simp; done), by simp; omega, by omega, by omega⟩) (by (try dsimp only); (try simp only [setsT, setsE, List.set_cons_zero, List.set_cons_succ]); exact ALe.back (wk1 rfl (wk1 rfl (wk1 rfl (wk1 rfl (wk1 rfl (wk1 rfl (wk1 rfl (wk1 rfl (wk1 (by first | rfl | exact ivx (by omega) | (rw [List.length_append]; rfl)) (wk1 (by first | rfl | exact ivx (by omega) | (rw [List.length_append]; rfl)) (wk1 (by first | rfl | exact ivx (by omega) | (rw [List.length_append]; rfl)) (wk1 (by first | rfl | exact ivx (by omega) | (rw [List.length_append]; rfl)) (wka (wk1 rfl (wk1 rfl (wk1 rfl (wk1 rfl (wk1 rfl (wk1 rfl (wk1 rfl (wk1 rfl (wk1 rfl (wk1 rfl (wk1 rfl (wka (wka (wka (wka (wka (wka (wka (wka (wka (wka (wka (wka (wka (wka (wka (wka (wka (wka (wka (wka (wka (wka (wka (wka (wka (wka (wka (wka (wka (wka (wka (wka (wka (wka (wka (wka (wka (wka (wka (wka (wka (wka (wka (wka (wka (wka (wka (wka (wka (wka (wka (wk1 rfl (wk1 rfl (wk1 rfl (wk1 rfl (wk1 rfl (wk1 rfl (wk1 rfl (wk1 rfl (wk1 rfl (wk1 rfl (wk1 rfl (wk1 rfl (wk1 rfl (wk1 rfl (wk1 rfl (wk1 rfl (wk1 rfl (wk1 rfl (wk1 rfl (wk1 rfl (wk1 rfl (wk1 rfl (wk1 rfl (wk1 rfl (wk1 rfl (wk1 rfl (wk1 rfl (wk1 rfl (wk1 rfl (wk1 rfl (wk1 rfl (wk1 rfl (wk1 rfl (wk1 rfl (wk1 rfl (wk1 rfl (wk1 rfl (wk1 rfl (wk1 rfl (wk1 rfl wk0))))))))))))))))))))))))))))))))))))))))))))))))))))))))))))))))))))))))))))))))))))))))))))))))))))))))))))))))))) (by simp only [rows_app, rows_one, intC, hK]; try rfl) (k := N + 3) (by simp only [List.length_cons, List.length_nil, hn]) (by omega) (by first | rfl | (simp only [AV.lt, AV.ltL, Ent.lt, List.all_cons, List.all_nil, Bool.and_true, Bool.and_self, decide_true, chg_lt, int_lt]; done) | (simp [AV.lt, AV.ltL, Ent.lt, chg_lt, int_lt, *]; done) | (simp [AV.lt, AV.ltL, Ent.lt, chg_lt, int_lt, *]; omega)) (ltw (by omega) hlt) (by first | rfl | (simp only [AV.lt, AV.ltL, Ent.lt, List.all_cons, List.all_nil, Bool.and_true, Bool.and_self, decide_true, chg_lt, int_lt]; done) | (simp [AV.lt, AV.ltL, Ent.lt, chg_lt, int_lt, *]; done) | (simp [AV.lt, AV.ltL, Ent.lt, chg_lt, int_lt, *]; omega)))
        · skip
          rw [if_neg (by omega), List.nil_append] at hE
          refine w_skip ?_
          refine n_seq ?_
          refine w_seq ?_
          refine w_reg ?_
          refine s_val rfl (v_mv lk12) pt62 ?_
          refine s_val rfl (v_mv lk62) pt9 ?_
          refine s_nil ?_
          refine n_seq ?_
          refine w_seq ?_
          refine w_reg ?_
          refine s_val rfl (v_mv lk11) pt63 ?_
          refine s_val rfl (v_fap0 lk3) pt64 ?_
          refine s_val rfl (v_loadp lk64 (hga hn rfl) gt3) pt65 ?_
          refine s_val rfl (v_lenL lk65) pt66 ?_
          refine s_val rfl (v_lss lk63 lk66) pt67 ?_
          refine s_nil ?_
          refine n_seq ?_
          refine w_condKF lk67 (by exact decide_eq_false (by omega)) ?_
          refine w_skip ?_
          refine n_blk ?_
          refine n_seq ?_
          refine w_reg ?_
          refine s_val rfl (v_mv lk11) pt29 ?_
          refine s_val rfl (v_add lk29 lki (by omega) (by omega)) pt30 ?_
          refine s_val rfl (v_mv lk30) pt11 ?_
          refine s_nil ?_
          refine n_thn ?_
          refine LoopTo.mk (⟨i + 1, O, fN, sN, v⟩) (by omega) (by (try dsimp only); exact ⟨by omega, fun e => by first | exact hE | exact hE.trans (by rw [← hF e]) | exact hE.trans (by rw [← hF e, List.append_assoc]), fun e => by first | exact hE.trans (by rw [hF e, List.append_nil]) | exact hE.trans (by rw [List.append_nil]), by first | omega | (simp; omega), by omega, by omega⟩) (by (try dsimp only); (try simp only [setsT, setsE, List.set_cons_zero, List.set_cons_succ]); exact ALe.same (wk1 rfl (wk1 rfl (wk1 rfl (wk1 rfl (wk1 rfl (wk1 rfl (wk1 rfl (wk1 rfl (wk1 (by first | rfl | exact ivx (by omega) | (rw [List.length_append]; rfl)) (wk1 (by first | rfl | exact ivx (by omega) | (rw [List.length_append]; rfl)) (wk1 (by first | rfl | exact ivx (by omega) | (rw [List.length_append]; rfl)) (wk1 (by first | rfl | exact ivx (by omega) | (rw [List.length_append]; rfl)) (wka (wk1 rfl (wk1 rfl (wk1 rfl (wk1 rfl (wk1 rfl (wk1 rfl (wk1 rfl (wk1 rfl (wk1 rfl (wk1 rfl (wk1 rfl (wka (wka (wka (wka (wka (wka (wka (wka (wka (wka (wka (wka (wka (wka (wka (wka (wka (wka (wka (wka (wka (wka (wka (wka (wka (wka (wka (wka (wka (wka (wka (wka (wka (wka (wka (wka (wka (wka (wka (wka (wka (wka (wka (wka (wka (wka (wka (wka (wka (wka (wka (wk1 rfl (wk1 rfl (wk1 rfl (wk1 rfl (wk1 rfl (wk1 rfl (wk1 rfl (wk1 rfl (wk1 rfl (wk1 rfl (wk1 rfl (wk1 rfl (wk1 rfl (wk1 rfl (wk1 rfl (wk1 rfl (wk1 rfl (wk1 rfl (wk1 rfl (wk1 rfl (wk1 rfl (wk1 rfl (wk1 rfl (wk1 rfl (wk1 rfl (wk1 rfl (wk1 rfl (wk1 rfl (wk1 rfl (wk1 rfl (wk1 rfl (wk1 rfl (wk1 rfl (wk1 rfl (wk1 rfl (wk1 rfl (wk1 rfl (wk1 rfl (wk1 rfl (wk1 rfl wk0))))))))))))))))))))))))))))))))))))))))))))))))))))))))))))))))))))))))))))))))))))))))))))))))))))))))))))))))))) (by simp only [rows_app, rows_one, intC, hK]; try rfl))
      · skip
        rw [if_neg (by omega), List.nil_append] at hE
        refine s_no gt49 pt50 ?_
        refine s_no gt49 pt51 ?_
        refine s_no gt49 pt52 ?_
        refine s_no gt49 pt53 ?_
        refine s_no gt49 pt54 ?_
        refine s_val rfl (v_pickF lk49 lkb) pt55 ?_
        refine s_nil ?_
        refine n_seq ?_
        refine w_condF lk55 ?_
        refine w_skip ?_
        refine n_seq ?_
        refine w_seq ?_
        refine w_reg ?_
        refine s_val rfl (v_mv lk12) pt62 ?_
        refine s_val rfl (v_mv lk62) pt9 ?_
        refine s_nil ?_
        refine n_seq ?_
        refine w_seq ?_
        refine w_reg ?_
        refine s_val rfl (v_mv lk11) pt63 ?_
        refine s_val rfl (v_fap0 lk3) pt64 ?_
        refine s_val rfl (v_loadp lk64 (hga hn rfl) gt3) pt65 ?_
        refine s_val rfl (v_lenL lk65) pt66 ?_
        refine s_val rfl (v_lss lk63 lk66) pt67 ?_
        refine s_nil ?_
        refine n_seq ?_
        refine w_condKF lk67 (by exact decide_eq_false (by omega)) ?_
        refine w_skip ?_
        refine n_blk ?_
        refine n_seq ?_
        refine w_reg ?_
        refine s_val rfl (v_mv lk11) pt29 ?_
        refine s_val rfl (v_add lk29 lki (by omega) (by omega)) pt30 ?_
        refine s_val rfl (v_mv lk30) pt11 ?_
        refine s_nil ?_
        refine n_thn ?_
        refine LoopTo.mk (⟨i + 1, O, fN, sN, v⟩) (by omega) (by (try dsimp only); exact ⟨by omega, fun e => by first | exact hE | exact hE.trans (by rw [← hF e]) | exact hE.trans (by rw [← hF e, List.append_assoc]), fun e => by first | exact hE.trans (by rw [hF e, List.append_nil]) | exact hE.trans (by rw [List.append_nil]), by first | omega | (simp; omega), by omega, by omega⟩) (by (try dsimp only); (try simp only [setsT, setsE, List.set_cons_zero, List.set_cons_succ]); exact ALe.same (wk1 rfl (wk1 rfl (wk1 rfl (wk1 rfl (wk1 rfl (wk1 rfl (wk1 rfl (wk1 rfl (wk1 (by first | rfl | exact ivx (by omega) | (rw [List.length_append]; rfl)) (wk1 (by first | rfl | exact ivx (by omega) | (rw [List.length_append]; rfl)) (wk1 (by first | rfl | exact ivx (by omega) | (rw [List.length_append]; rfl)) (wk1 (by first | rfl | exact ivx (by omega) | (rw [List.length_append]; rfl)) (wka (wk1 rfl (wk1 rfl (wk1 rfl (wk1 rfl (wk1 rfl (wk1 rfl (wk1 rfl (wk1 rfl (wk1 rfl (wk1 rfl (wk1 rfl (wka (wka (wka (wka (wka (wka (wka (wka (wka (wka (wka (wka (wka (wka (wka (wka (wka (wka (wka (wka (wka (wka (wka (wka (wka (wka (wka (wka (wka (wka (wka (wka (wka (wka (wka (wka (wka (wka (wka (wka (wka (wka (wka (wka (wka (wka (wka (wka (wka (wka (wka (wk1 rfl (wk1 rfl (wk1 rfl (wk1 rfl (wk1 rfl (wk1 rfl (wk1 rfl (wk1 rfl (wk1 rfl (wk1 rfl (wk1 rfl (wk1 rfl (wk1 rfl (wk1 rfl (wk1 rfl (wk1 rfl (wk1 rfl (wk1 rfl (wk1 rfl (wk1 rfl (wk1 rfl (wk1 rfl (wk1 rfl (wk1 rfl (wk1 rfl (wk1 rfl (wk1 rfl (wk1 rfl (wk1 rfl (wk1 rfl (wk1 rfl (wk1 rfl (wk1 rfl (wk1 rfl (wk1 rfl (wk1 rfl (wk1 rfl (wk1 rfl (wk1 rfl (wk1 rfl wk0))))))))))))))))))))))))))))))))))))))))))))))))))))))))))))))))))))))))))))))))))))))))))))))))))))))))))))))))))) (by simp only [rows_app, rows_one, intC, hK]; try rfl))
  · skip
    have hsp := hj3 (by omega)
    refine w_exit ?_
    refine x_thn ?_
    refine x_thn ?_
    refine x_blk ?_
    refine n_seq ?_
    refine w_seq ?_
    refine w_seq ?_
    refine w_reg ?_
    refine s_val rfl (v_mv lki) pt13 ?_
    refine s_nil ?_
    refine n_seq ?_
    refine w_block ?_
    refine w_loop (ι := Nat × List Int) (fun (x_ : Nat × List Int) => match x_ with | ⟨a, L⟩ => [(8, .own (N + 2) v L.length), (13, iv (a : Int)), (14, .any), (75, .any), (76, .any), (77, .any), (78, .any), (79, .any), (80, .any), (81, .any), (82, .any), (83, .any), (84, .any), (85, .any), (86, .any), (87, .any), (88, .any), (89, .any), (90, .any), (91, .any), (92, .any), (93, .any), (94, .any), (95, .any), (96, .any), (97, .any), (98, .any), (99, .any), (100, .any), (101, .any), (102, .any), (103, .any), (104, .any), (105, .any), (106, .any), (107, .any), (108, .any), (109, .any), (110, .any), (111, .any), (112, .any), (113, .any)]) (fun (x_ : Nat × List Int) => match x_ with | ⟨a, L⟩ => [(2, .mk v 3 1 (rows intC L))]) (fun (x_ : Nat × List Int) => match x_ with | ⟨a, L⟩ => L.length = O.length ∧ 1 ≤ a ∧ (a ≤ L.length ∨ L.length = 0) ∧ L.Perm (spA t K) ∧ (L.take a).Pairwise (· ≤ ·)) (fun (x_ : Nat × List Int) => match x_ with | ⟨a, L⟩ => L.length - a) (⟨1, O⟩) (by exact ⟨rfl, Nat.le_refl _, by omega, by rw [hsp], by cases O <;> simp⟩) (by try simp only [setsT, setsE, List.set_cons_zero, List.set_cons_succ]; exact ALe.same (wk1 rfl (wk1 rfl (wk1 rfl (wk1 rfl (wk1 rfl (wk1 rfl (wk1 rfl (wk1 rfl (wk1 (by first | rfl | exact ivx (by omega) | (simp; done)) (wk1 rfl (wk1 rfl (wk1 rfl (wk1 rfl (wk1 (by first | rfl | exact ivx (by omega) | (simp; done)) (wka (wk1 rfl (wk1 rfl (wk1 rfl (wk1 rfl (wk1 rfl (wk1 rfl (wk1 rfl (wk1 rfl (wk1 rfl (wk1 rfl (wk1 rfl (wk1 rfl (wk1 rfl (wk1 rfl (wk1 rfl (wk1 rfl (wk1 rfl (wk1 rfl (wk1 rfl (wk1 rfl (wk1 rfl (wk1 rfl (wk1 rfl (wk1 rfl (wk1 rfl (wk1 rfl (wk1 rfl (wk1 rfl (wk1 rfl (wk1 rfl (wk1 rfl (wk1 rfl (wk1 rfl (wk1 rfl (wk1 rfl (wk1 rfl (wk1 rfl (wk1 rfl (wk1 rfl (wk1 rfl (wk1 rfl (wk1 rfl (wk1 rfl (wk1 rfl (wk1 rfl (wk1 rfl (wk1 rfl (wk1 rfl (wk1 rfl (wk1 rfl (wk1 rfl (wk1 rfl (wk1 rfl (wk1 rfl (wk1 rfl (wk1 rfl (wk1 rfl (wk1 rfl (wk1 rfl (wk1 rfl (wka (wka (wka (wka (wka (wka (wka (wka (wka (wka (wka (wka (wka (wka (wka (wka (wka (wka (wka (wka (wka (wka (wka (wka (wka (wka (wka (wka (wka (wka (wka (wka (wka (wka (wka (wka (wka (wka (wka (wk1 rfl wk0))))))))))))))))))))))))))))))))))))))))))))))))))))))))))))))))))))))))))))))))))))))))))))))))))))))))))))))))))) rfl) ?_
    rintro ⟨a, L⟩ hi2
    try simp only [setsT, setsE, List.set_cons_zero, List.set_cons_succ]
    obtain ⟨hm1, hm2, hm3, hm4, hm5⟩ := hi2
    refine w_seq ?_
    refine w_seq ?_
    refine w_reg ?_
    refine s_val rfl (v_mv lk13) (ptS pt5) ?_
    refine s_val rfl (v_mv lk8) (ptS pt6) ?_
    refine s_val rfl (v_lenO (lkS lk6)) (ptS pt7) ?_
    refine s_val rfl (v_lss (lkS lk5) (lkS lk7)) (ptS pt8) ?_
    refine s_nil ?_
    refine n_seq ?_
    first | refine w_cond (lkS lk8) (fun hc5 => ?_) (fun hc5 => ?_) | refine w_condB (lkS lk8) (fun hc5 => ?_) (fun hc5 => ?_)
    · skip
      have hz2 : a < L.length := by omega
      refine w_skip ?_
      refine n_seq ?_
      refine w_seq ?_
      refine w_block ?_
      refine w_seq ?_
      refine w_reg ?_
      refine s_val rfl (v_mv lk13) (ptS pt11) ?_
      refine s_val rfl (v_mv (lkS lk11)) pt14 ?_
      refine s_nil ?_
      refine n_seq ?_
      refine w_block ?_
      refine w_loop (ι := Nat × List Int) (fun (x_ : Nat × List Int) => match x_ with | ⟨k, M⟩ => [(8, .own (N + 2) v M.length), (14, iv (k : Int)), (82, .any), (83, .any), (84, .any), (85, .any), (86, .any), (87, .any), (88, .any), (89, .any), (90, .any), (91, .any), (92, .any), (93, .any), (94, .any), (95, .any), (96, .any), (97, .any), (98, .any), (99, .any), (100, .any), (101, .any), (102, .any), (103, .any), (104, .any), (105, .any), (106, .any), (107, .any), (108, .any), (109, .any), (110, .any), (111, .any), (112, .any), (113, .any)]) (fun (x_ : Nat × List Int) => match x_ with | ⟨k, M⟩ => [(2, .mk v 3 1 (rows intC M))]) (fun (x_ : Nat × List Int) => match x_ with | ⟨k, M⟩ => M.length = L.length ∧ k ≤ a ∧ M.Perm (spA t K) ∧ insG a k M) (fun (x_ : Nat × List Int) => match x_ with | ⟨k, M⟩ => k) (⟨a, L⟩) (by exact ⟨rfl, Nat.le_refl _, hm4, insG_start hz2 hm5⟩) (by try simp only [setsT, setsE, List.set_cons_zero, List.set_cons_succ]; exact ALe.same (wk1 rfl (wk1 rfl (wk1 rfl (wk1 rfl (wk1 rfl (wk1 rfl (wk1 rfl (wk1 rfl (wk1 (by first | rfl | exact ivx (by omega) | (simp; done)) (wk1 rfl (wk1 rfl (wk1 rfl (wk1 rfl (wk1 rfl (wk1 (by first | rfl | exact ivx (by omega) | (simp; done)) (wk1 rfl (wk1 rfl (wk1 rfl (wk1 rfl (wk1 rfl (wk1 rfl (wk1 rfl (wk1 rfl (wk1 rfl (wk1 rfl (wk1 rfl (wk1 rfl (wk1 rfl (wk1 rfl (wk1 rfl (wk1 rfl (wk1 rfl (wk1 rfl (wk1 rfl (wk1 rfl (wk1 rfl (wk1 rfl (wk1 rfl (wk1 rfl (wk1 rfl (wk1 rfl (wk1 rfl (wk1 rfl (wk1 rfl (wk1 rfl (wk1 rfl (wk1 rfl (wk1 rfl (wk1 rfl (wk1 rfl (wk1 rfl (wk1 rfl (wk1 rfl (wk1 rfl (wk1 rfl (wk1 rfl (wk1 rfl (wk1 rfl (wk1 rfl (wk1 rfl (wk1 rfl (wk1 rfl (wk1 rfl (wk1 rfl (wk1 rfl (wk1 rfl (wk1 rfl (wk1 rfl (wk1 rfl (wk1 rfl (wk1 rfl (wk1 rfl (wk1 rfl (wk1 rfl (wk1 rfl (wk1 rfl (wk1 rfl (wk1 rfl (wk1 rfl (wk1 rfl (wk1 rfl (wk1 rfl (wka (wka (wka (wka (wka (wka (wka (wka (wka (wka (wka (wka (wka (wka (wka (wka (wka (wka (wka (wka (wka (wka (wka (wka (wka (wka (wka (wka (wka (wka (wka (wka (wk1 rfl wk0))))))))))))))))))))))))))))))))))))))))))))))))))))))))))))))))))))))))))))))))))))))))))))))))))))))))))))))))))) rfl) ?_
      rintro ⟨k, M⟩ hi3
      try simp only [setsT, setsE, List.set_cons_zero, List.set_cons_succ]
      obtain ⟨hk1, hk2, hk3, hk4⟩ := hi3
      refine w_seq ?_
      refine w_seq ?_
      refine w_drwE ?_
      refine d_val rfl (v_mv lk14) (ptS pt12) ?_
      refine d_val rfl (v_gtr (lkS lk12) lki) (ptS pt13) ?_
      refine d_val rfl (v_mv (lkS lk13)) (ptS pt14) ?_
      first | refine d_splitP (gtS gt14) (ptS pt14) (ptS pt14) (fun hg84 => ?_) (fun hg84 => ?_) | refine d_splitB (gtS gt14) (ptS pt14) (ptS pt14) (fun hg84 => ?_) (fun hg84 => ?_)
      · skip
        obtain ⟨j, rfl⟩ : ∃ j, k = j + 1 := ⟨k - 1, by omega⟩
        have hz3 : j + 1 < M.length := by omega
        refine d_do (gtS gt14) ?_
        refine d_val rfl (v_mv lk8) (ptS pt15) ?_
        refine d_do (gtS gt14) ?_
        refine d_val rfl (v_mv lk14) (ptS pt16) ?_
        refine d_do (gtS gt14) ?_
        refine d_val rfl (v_iaOR (lkS lk15) (lkS lk16) (hga hn rfl) int_len1 (Nat.le_of_ble_eq_true rfl) (by first | rfl | omega) (by omega) (by first | rfl | (simp; done) | omega)) (ptS pt17) ?_
        refine d_do (gtS gt14) ?_
        refine d_val rfl (v_ldOR1 (lkS lk17) (hga hn rfl) int_len1 (by omega) rfl) (ptS pt18) ?_
        refine d_do (gtS gt14) ?_
        refine d_val rfl (v_mv lk8) (ptS pt19) ?_
        refine d_do (gtS gt14) ?_
        refine d_val rfl (v_mv lk14) (ptS pt20) ?_
        refine d_do (gtS gt14) ?_
        refine d_val rfl (v_sub (lkS lk20) lki (by omega) (by omega)) (ptS pt21) ?_
        refine d_do (gtS gt14) ?_
        refine d_val rfl (v_iaOR (k := j) (lkS lk19) (lkS lk21) (hga hn rfl) int_len1 (Nat.le_of_ble_eq_true rfl) (by first | rfl | omega) (by omega) (by first | rfl | (simp; done) | omega)) (ptS pt22) ?_
        refine d_do (gtS gt14) ?_
        refine d_val rfl (v_ldOR1 (lkS lk22) (hga hn rfl) int_len1 (by omega) rfl) (ptS pt23) ?_
        refine d_do (gtS gt14) ?_
        refine d_val rfl (v_lss (lkS lk18) (lkS lk23)) (ptS pt24) ?_
        refine d_val rfl (v_pickT (lkS lk14) (lkS lk24)) (ptS pt25) ?_
        refine d_nil ?_
        refine e_nil ?_
        refine s_nil ?_
        refine n_seq ?_
        first | refine w_cond (lkS lk25) (fun hc6 => ?_) (fun hc6 => ?_) | refine w_condB (lkS lk25) (fun hc6 => ?_) (fun hc6 => ?_)
        · skip
          obtain ⟨hz4, hz5⟩ := insG_step hk4 hz3 (by omega)
          refine w_skip ?_
          refine n_seq ?_
          refine w_seq ?_
          refine w_block ?_
          refine w_drwE ?_
          refine d_val rfl (v_mv lk8) (ptS pt28) ?_
          refine d_val rfl (v_mv lk14) (ptS pt29) ?_
          refine d_val rfl (v_mv lk8) (ptS pt30) ?_
          refine d_val rfl (v_mv lk14) (ptS pt31) ?_
          refine d_val rfl (v_sub (lkS lk31) lki (by omega) (by omega)) (ptS pt32) ?_
          refine d_val rfl (v_mv lk8) (ptS pt33) ?_
          refine d_val rfl (v_mv lk14) (ptS pt34) ?_
          refine d_val rfl (v_sub (lkS lk34) lki (by omega) (by omega)) (ptS pt35) ?_
          refine d_val rfl (v_iaOR (k := j) (lkS lk33) (lkS lk35) (hga hn rfl) int_len1 (Nat.le_of_ble_eq_true rfl) (by first | rfl | omega) (by omega) (by first | rfl | (simp; done) | omega)) (ptS pt36) ?_
          refine d_val rfl (v_ldOR1 (lkS lk36) (hga hn rfl) int_len1 (by omega) rfl) (ptS pt37) ?_
          refine d_val rfl (v_mv lk8) (ptS pt38) ?_
          refine d_val rfl (v_mv lk14) (ptS pt39) ?_
          refine d_val rfl (v_iaOR (lkS lk38) (lkS lk39) (hga hn rfl) int_len1 (Nat.le_of_ble_eq_true rfl) (by first | rfl | omega) (by omega) (by first | rfl | (simp; done) | omega)) (ptS pt40) ?_
          refine d_val rfl (v_ldOR1 (lkS lk40) (hga hn rfl) int_len1 (by omega) rfl) (ptS pt41) ?_
          refine d_val rfl (v_iaOR (lkS lk28) (lkS lk29) (hga hn rfl) int_len1 (Nat.le_of_ble_eq_true rfl) (by first | rfl | omega) (by omega) (by first | rfl | (simp; done) | omega)) (ptS pt42) ?_
          refine d_nil ?_
          refine e_nil ?_
          refine s_eff rfl rfl (e_stOR (z := M[j]) (lkS lk42) (cvl (lkS lk37) rfl) (hga hn rfl) int_len1 rfl (by omega) (hs2 hn)) ptn ?_
          refine s_val rfl (v_iaOR (k := j) (lkS lk30) (lkS lk32) (hga hn rfl) int_len1 (Nat.le_of_ble_eq_true rfl) (by first | rfl | first | omega | (rw [List.length_set]; omega)) (by first | omega | (rw [List.length_set]; omega)) (by first | rfl | (simp; done) | first | omega | (rw [List.length_set]; omega))) (ptS pt43) ?_
          refine s_eff rfl rfl (e_stOR (z := M[j + 1]) (lkS lk43) (cvl (lkS lk41) rfl) (hga hn rfl) int_len1 rfl (by first | omega | (rw [List.length_set]; omega)) (hs2 hn)) ptn ?_
          refine s_nil ?_
          refine n_blk ?_
          refine n_seq ?_
          refine w_reg ?_
          refine s_val rfl (v_mv lk14) (ptS pt26) ?_
          refine s_val rfl (v_sub (lkS lk26) lki (by omega) (by omega)) (ptS pt27) ?_
          refine s_val rfl (v_mv (lkS lk27)) pt14 ?_
          refine s_nil ?_
          refine n_thn ?_
          refine LoopTo.mk (⟨j, (M.set (j + 1) M[j]).set j M[j + 1]⟩) (by omega) (by (try dsimp only); exact ⟨by simp; omega, by omega, hz5.trans hk3, hz4⟩) (by (try dsimp only); (try simp only [setsT, setsE, List.set_cons_zero, List.set_cons_succ]); exact ALe.same (wk1 rfl (wk1 rfl (wk1 rfl (wk1 rfl (wk1 rfl (wk1 rfl (wk1 rfl (wk1 rfl (wk1 (by first | rfl | exact ivx (by omega) | (simp; done)) (wk1 rfl (wk1 rfl (wk1 rfl (wk1 rfl (wk1 rfl (wk1 (by first | rfl | exact ivx (by omega) | (simp; done)) (wk1 rfl (wk1 rfl (wk1 rfl (wk1 rfl (wk1 rfl (wk1 rfl (wk1 rfl (wk1 rfl (wk1 rfl (wk1 rfl (wk1 rfl (wk1 rfl (wk1 rfl (wk1 rfl (wk1 rfl (wk1 rfl (wk1 rfl (wk1 rfl (wk1 rfl (wk1 rfl (wk1 rfl (wk1 rfl (wk1 rfl (wk1 rfl (wk1 rfl (wk1 rfl (wk1 rfl (wk1 rfl (wk1 rfl (wk1 rfl (wk1 rfl (wk1 rfl (wk1 rfl (wk1 rfl (wk1 rfl (wk1 rfl (wk1 rfl (wk1 rfl (wk1 rfl (wk1 rfl (wk1 rfl (wk1 rfl (wk1 rfl (wk1 rfl (wk1 rfl (wk1 rfl (wk1 rfl (wk1 rfl (wk1 rfl (wk1 rfl (wk1 rfl (wk1 rfl (wk1 rfl (wk1 rfl (wk1 rfl (wk1 rfl (wk1 rfl (wk1 rfl (wk1 rfl (wk1 rfl (wk1 rfl (wk1 rfl (wk1 rfl (wk1 rfl (wk1 rfl (wk1 rfl (wk1 rfl (wka (wka (wka (wka (wka (wka (wka (wka (wka (wka (wka (wka (wka (wka (wka (wka (wka (wka (wka (wka (wka (wka (wka (wka (wka (wka (wka (wka (wka (wka (wka (wka (wk1 rfl wk0))))))))))))))))))))))))))))))))))))))))))))))))))))))))))))))))))))))))))))))))))))))))))))))))))))))))))))))))))) rfl)
        · skip
          have hz6 := insG_stop1 hk4 hz3 (by omega)
          have hz7 : M.length - (a + 1) < L.length - a := by rw [hk1]; omega
          refine w_exit ?_
          refine x_thn ?_
          refine x_thn ?_
          refine x_blk ?_
          refine n_blk ?_
          refine n_seq ?_
          refine w_reg ?_
          refine s_val rfl (v_mv lk13) (ptS pt9) ?_
          refine s_val rfl (v_add (lkS lk9) lki (by omega) (by omega)) (ptS pt10) ?_
          refine s_val rfl (v_mv (lkS lk10)) pt13 ?_
          refine s_nil ?_
          refine n_thn ?_
          refine LoopTo.mk (⟨a + 1, M⟩) (by omega) (by (try dsimp only); exact ⟨by omega, by omega, by omega, hk3, hz6⟩) (by (try dsimp only); (try simp only [setsT, setsE, List.set_cons_zero, List.set_cons_succ]); exact ALe.same (wk1 rfl (wk1 rfl (wk1 rfl (wk1 rfl (wk1 rfl (wk1 rfl (wk1 rfl (wk1 rfl (wk1 (by first | rfl | exact ivx (by omega) | (simp; done)) (wk1 rfl (wk1 rfl (wk1 rfl (wk1 rfl (wk1 (by first | rfl | exact ivx (by omega) | (simp; done)) (wka (wk1 rfl (wk1 rfl (wk1 rfl (wk1 rfl (wk1 rfl (wk1 rfl (wk1 rfl (wk1 rfl (wk1 rfl (wk1 rfl (wk1 rfl (wk1 rfl (wk1 rfl (wk1 rfl (wk1 rfl (wk1 rfl (wk1 rfl (wk1 rfl (wk1 rfl (wk1 rfl (wk1 rfl (wk1 rfl (wk1 rfl (wk1 rfl (wk1 rfl (wk1 rfl (wk1 rfl (wk1 rfl (wk1 rfl (wk1 rfl (wk1 rfl (wk1 rfl (wk1 rfl (wk1 rfl (wk1 rfl (wk1 rfl (wk1 rfl (wk1 rfl (wk1 rfl (wk1 rfl (wk1 rfl (wk1 rfl (wk1 rfl (wk1 rfl (wk1 rfl (wk1 rfl (wk1 rfl (wk1 rfl (wk1 rfl (wk1 rfl (wk1 rfl (wk1 rfl (wk1 rfl (wk1 rfl (wk1 rfl (wk1 rfl (wk1 rfl (wk1 rfl (wk1 rfl (wk1 rfl (wka (wka (wka (wka (wka (wka (wka (wka (wka (wka (wka (wka (wka (wka (wka (wka (wka (wka (wka (wka (wka (wka (wka (wka (wka (wka (wka (wka (wka (wka (wka (wka (wka (wka (wka (wka (wka (wka (wka (wk1 rfl wk0))))))))))))))))))))))))))))))))))))))))))))))))))))))))))))))))))))))))))))))))))))))))))))))))))))))))))))))))))) rfl)
      · skip
        obtain rfl : k = 0 := by omega
        have hz6 := insG_stop0 hk4
        have hz7 : M.length - (a + 1) < L.length - a := by rw [hk1]; omega
        refine d_no (gtS gt14) (ptS pt15) ?_
        refine d_no (gtS gt14) (ptS pt16) ?_
        refine d_no (gtS gt14) (ptS pt17) ?_
        refine d_no (gtS gt14) (ptS pt18) ?_
        refine d_no (gtS gt14) (ptS pt19) ?_
        refine d_no (gtS gt14) (ptS pt20) ?_
        refine d_no (gtS gt14) (ptS pt21) ?_
        refine d_no (gtS gt14) (ptS pt22) ?_
        refine d_no (gtS gt14) (ptS pt23) ?_
        refine d_no (gtS gt14) (ptS pt24) ?_
        refine d_val rfl (v_pickF (lkS lk14) lkb) (ptS pt25) ?_
        refine d_nil ?_
        refine e_nil ?_
        refine s_nil ?_
        refine n_seq ?_
        refine w_condF (lkS lk25) ?_
        refine w_exit ?_
        refine x_thn ?_
        refine x_thn ?_
        refine x_blk ?_
        refine n_blk ?_
        refine n_seq ?_
        refine w_reg ?_
        refine s_val rfl (v_mv lk13) (ptS pt9) ?_
        refine s_val rfl (v_add (lkS lk9) lki (by omega) (by omega)) (ptS pt10) ?_
        refine s_val rfl (v_mv (lkS lk10)) pt13 ?_
        refine s_nil ?_
        refine n_thn ?_
        refine LoopTo.mk (⟨a + 1, M⟩) (by omega) (by (try dsimp only); exact ⟨by omega, by omega, by omega, hk3, hz6⟩) (by (try dsimp only); (try simp only [setsT, setsE, List.set_cons_zero, List.set_cons_succ]); exact ALe.same (wk1 rfl (wk1 rfl (wk1 rfl (wk1 rfl (wk1 rfl (wk1 rfl (wk1 rfl (wk1 rfl (wk1 (by first | rfl | exact ivx (by omega) | (simp; done)) (wk1 rfl (wk1 rfl (wk1 rfl (wk1 rfl (wk1 (by first | rfl | exact ivx (by omega) | (simp; done)) (wka (wk1 rfl (wk1 rfl (wk1 rfl (wk1 rfl (wk1 rfl (wk1 rfl (wk1 rfl (wk1 rfl (wk1 rfl (wk1 rfl (wk1 rfl (wk1 rfl (wk1 rfl (wk1 rfl (wk1 rfl (wk1 rfl (wk1 rfl (wk1 rfl (wk1 rfl (wk1 rfl (wk1 rfl (wk1 rfl (wk1 rfl (wk1 rfl (wk1 rfl (wk1 rfl (wk1 rfl (wk1 rfl (wk1 rfl (wk1 rfl (wk1 rfl (wk1 rfl (wk1 rfl (wk1 rfl (wk1 rfl (wk1 rfl (wk1 rfl (wk1 rfl (wk1 rfl (wk1 rfl (wk1 rfl (wk1 rfl (wk1 rfl (wk1 rfl (wk1 rfl (wk1 rfl (wk1 rfl (wk1 rfl (wk1 rfl (wk1 rfl (wk1 rfl (wk1 rfl (wk1 rfl (wk1 rfl (wk1 rfl (wk1 rfl (wk1 rfl (wk1 rfl (wk1 rfl (wk1 rfl (wka (wka (wka (wka (wka (wka (wka (wka (wka (wka (wka (wka (wka (wka (wka (wka (wka (wka (wka (wka (wka (wka (wka (wka (wka (wka (wka (wka (wka (wka (wka (wka (wka (wka (wka (wka (wka (wka (wka (wk1 rfl wk0))))))))))))))))))))))))))))))))))))))))))))))))))))))))))))))))))))))))))))))))))))))))))))))))))))))))))))))))))) rfl)
    · skip
      have hLs : L = whenL t K := by rw [← spA_when hv K]; exact sortI_uniq hm4 (by rw [List.take_of_length_le (by omega)] at hm5; exact hm5)
      refine w_exit ?_
      refine x_thn ?_
      refine x_thn ?_
      refine x_blk ?_
      skip
      refine n_seqw (ALe.iceR (hga hn rfl) gt8 (List.take_of_length_le (by rw [int_len]; exact Nat.le_refl _)) (by rw [int_len]; exact Nat.le_refl _) pt8 (hs2 hn)) ?_
      refine w_seq ?_
      refine w_reg ?_
      refine s_val rfl (v_mv lk8) (ptS pt44) ?_
      refine s_val rfl (v_mv (lkS lk44)) pt6 ?_
      refine s_nil ?_
      refine n_seq ?_
      refine w_rets ?_
      refine w_ret (rs1 (rr_t gt6)) ?_
      refine rt (by first | rfl | (simp only [AV.lt, AV.ltL, Ent.lt, List.all_cons, List.all_nil, Bool.and_true, Bool.and_self, decide_true, chg_lt, int_lt]; done) | (simp [AV.lt, AV.ltL, Ent.lt, chg_lt, int_lt, *]; done) | (simp [AV.lt, AV.ltL, Ent.lt, chg_lt, int_lt, *]; omega)) ?_
      rw [hLs]
end Go.Proofs.Ytmbebimingkfeaa
