/-
  Contract on plain data: wire.Decode. No condition.
-/
import Derived.Test.YtmbebimingkfeaaWDecB
import Derived.Test.YtmbebimingkfeaaWEncB
set_option linter.unusedVariables false
set_option linter.unusedSimpArgs false
set_option maxRecDepth 100000
namespace Go.Proofs.Ytmbebimingkfeaa
open Go.Ab Civ
section
theorem WDecC_Decode_4 {τ : Operand → AV} {y0 : Operand} {x0_0 : AV} (h0 : cellsV (τ y0) = some [x0_0]) (l0 : [x0_0].all leaf = true) : fillAV τ [(0, 1, y0)] [(.v (.string ⟨#[]⟩)), (.v (.bool false)), (.sl 0 0 true [])] = some [x0_0, (.v (.bool false)), (.sl 0 0 true [])] := by
  simp only [fillAV, h0, l0]
  rfl
theorem WDecC_sc0_1 {a0 c0 : AV} {l : List AV} : setCells (a0 :: l) 0 [c0] = c0 :: l := rfl
theorem WDecC_Decode_15 {τ : Operand → AV} {y0 : Operand} {x0_0 x0_1 x0_2 : AV} (h0 : cellsV (τ y0) = some [x0_0, x0_1, x0_2]) (l0 : [x0_0, x0_1, x0_2].all leaf = true) : fillAV τ [(0, 3, y0)] [(.v (.int .i64 0)), (.v (.int .i64 0)), (.v (.string ⟨#[]⟩)), (.sl 0 0 true [])] = some [x0_0, x0_1, x0_2, (.sl 0 0 true [])] := by
  simp only [fillAV, h0, l0]
  rfl
theorem WDecC_sc0_4 {a0 a1 a2 a3 c0 c1 c2 c3 : AV} {l : List AV} : setCells (a0 :: a1 :: a2 :: a3 :: l) 0 [c0, c1, c2, c3] = c0 :: c1 :: c2 :: c3 :: l := rfl
theorem WDecC_Decode_38 {τ : Operand → AV} : fillAV τ [] [(.v (.int .i64 0)), (.v (.int .i64 0)), (.v (.string ⟨#[]⟩)), (.sl 0 0 true [])] = some [(.v (.int .i64 0)), (.v (.int .i64 0)), (.v (.string ⟨#[]⟩)), (.sl 0 0 true [])] := rfl
theorem WDecC_tk0_4 {a0 a1 a2 a3 : AV} {l : List AV} : ((a0 :: a1 :: a2 :: a3 :: l).drop 0).take 4 = [a0, a1, a2, a3] := rfl
end
/-- wire.Decode -/
def c22 : AC := (.seq (.reg [⟨(some 2), none, (.new 26 4 [(.v (.int .i64 0)), (.v (.int .i64 0)), (.v (.string ⟨#[]⟩)), (.sl 0 0 true [])])⟩, ⟨(some 3), none, (.mv (.const (.int .i64 0)))⟩]) (.seq (.reg [⟨(some 6), none, (.mv (.tmp 0))⟩, ⟨(some 7), none, (.build [(.v (.string ⟨#[]⟩)), (.v (.bool false)), (.sl 0 0 true [])] [(0, (1, (.tmp 6)))])⟩, ⟨(some 8), none, (.box 70 3 (.tmp 7))⟩, ⟨(some 4), none, (.new 67 1 [(.v (.pointer none))])⟩, ⟨none, none, (.store 1 (.tmp 4) (.tmp 8))⟩]) (.seq (.drw [⟨(some 9), none, (.loadR false 1 (.tmp 4))⟩, ⟨(some 10), none, (.load false 1 (.tmp 4))⟩] [true, true, false] [⟨(some 11), none, (.call (.func 42) [(.tmp 10), (.const (.int .i64 2))])⟩, ⟨(some 12), none, (.mkfn 43 [(.tmp 4)])⟩, ⟨(some 13), none, (.call (.func 41) [(.tmp 9), (.tmp 11), (.tmp 12)])⟩]) (.seq (.reg [⟨(some 14), none, (.load false 1 (.tmp 4))⟩, ⟨(some 15), none, (.call (.func 45) [(.tmp 14)])⟩, ⟨(some 16), none, (.build [(.v (.int .i64 0)), (.v (.int .i64 0)), (.v (.string ⟨#[]⟩)), (.sl 0 0 true [])] [(0, (3, (.tmp 15)))])⟩, ⟨(some 5), none, (.new 26 4 [(.v (.int .i64 0)), (.v (.int .i64 0)), (.v (.string ⟨#[]⟩)), (.sl 0 0 true [])])⟩, ⟨none, none, (.store 4 (.tmp 5) (.tmp 16))⟩]) (.seq (.drw [⟨(some 17), none, (.loadR false 1 (.tmp 4))⟩, ⟨(some 18), none, (.load false 1 (.tmp 4))⟩] [true, true, false] [⟨(some 19), none, (.call (.func 42) [(.tmp 18), (.const (.int .i64 2))])⟩, ⟨(some 20), none, (.mkfn 46 [(.tmp 4), (.tmp 5)])⟩, ⟨(some 21), none, (.call (.func 41) [(.tmp 17), (.tmp 19), (.tmp 20)])⟩]) (.seq (.seq (.reg [⟨(some 22), none, (.load false 1 (.tmp 4))⟩, ⟨(some 23), none, (.nck (.tmp 22))⟩, ⟨(some 24), none, (.fa 1 (.tmp 23))⟩, ⟨(some 25), none, (.load false 1 (.tmp 24))⟩, ⟨(some 26), none, (.mv (.tmp 25))⟩, ⟨(some 27), (some (26, false)), (.load true 4 (.tmp 5))⟩, ⟨(some 28), (some (26, false)), (.call (.func 35) [(.tmp 27)])⟩, ⟨(some 29), (some (26, false)), (.bin .neq (.tmp 28) (.const (.int .i64 0)))⟩, ⟨(some 30), none, (.pick (.tmp 26) (.const (.bool true)) (.tmp 29))⟩, ⟨(some 31), none, (.mv (.tmp 30))⟩, ⟨(some 32), (some (31, false)), (.load true 4 (.tmp 5))⟩, ⟨(some 33), (some (31, false)), (.call (.func 40) [(.tmp 32)])⟩, ⟨(some 34), (some (31, false)), (.mv (.tmp 0))⟩, ⟨(some 35), (some (31, false)), (.bin .neq (.tmp 33) (.tmp 34))⟩, ⟨(some 36), none, (.pick (.tmp 31) (.const (.bool true)) (.tmp 35))⟩]) (.cond (.tmp 36) (.seq (.reg [⟨(some 37), none, (.build [(.v (.int .i64 0)), (.v (.int .i64 0)), (.v (.string ⟨#[]⟩)), (.sl 0 0 true [])] [])⟩, ⟨none, none, (.store 4 (.tmp 2) (.tmp 37))⟩, ⟨(some 3), none, (.mv (.const (.int .i64 1)))⟩]) .ret) .skip)) (.seq (.reg [⟨(some 38), none, (.load true 4 (.tmp 5))⟩, ⟨none, none, (.store 4 (.tmp 2) (.tmp 38))⟩, ⟨(some 3), none, (.mv (.const (.int .i64 0)))⟩]) .ret)))))))
theorem k22 : compF Try.prog 22 = some ⟨c22, [(.cell 2 true 4), (.tmp 3)], 39⟩ := by kernel_rfl
theorem i22 {a0 : AV} {h : AH} {R : AE → Prop} (hw : ∀ n, h.length = n → (∀ e ∈ h, e.lt n = true) → AV.ltL n [a0] = true → AV.bdL [a0] → aw Try.prog n c22 (retA [(.cell 2 true 4), (.tmp 3)] fun x h' => ∃ z, h' = h ++ z ∧ x.lt n = true ∧ R x) [a0, .any, .any, .any, .any, .any, .any, .any, .any, .any, .any, .any, .any, .any, .any, .any, .any, .any, .any, .any, .any, .any, .any, .any, .any, .any, .any, .any, .any, .any, .any, .any, .any, .any, .any, .any, .any, .any, .any] (h ++ [])) : ACalls Try.prog 22 [a0] h fun x h' => h' = h ∧ R x := ACalls.into k22 rfl hw
theorem w22 {a0 : AV} {h : AH} {res : AV} (hw : ∀ n, h.length = n → (∀ e ∈ h, e.lt n = true) → AV.ltL n [a0] = true → AV.bdL [a0] → aw Try.prog n c22 (retA [(.cell 2 true 4), (.tmp 3)] fun x h' => ∃ z, h' = h ++ z ∧ x.lt n = true ∧ ∃ c, x = .ret c ∧ Wk c res) [a0, .any, .any, .any, .any, .any, .any, .any, .any, .any, .any, .any, .any, .any, .any, .any, .any, .any, .any, .any, .any, .any, .any, .any, .any, .any, .any, .any, .any, .any, .any, .any, .any, .any, .any, .any, .any, .any, .any] (h ++ [])) : ACalls Try.prog 22 [a0] h fun x h' => h' = h ∧ x = .ret res := ACalls.weak (ACalls.into k22 rfl hw)
theorem n22 {a0 : AV} {h : AH} {R : AE → AH → Prop} (hw : ∀ n, h.length = n → (∀ e ∈ h, e.lt n = true) → AV.ltL n [a0] = true → AV.bdL [a0] → aw Try.prog n c22 (retA [(.cell 2 true 4), (.tmp 3)] R) [a0, .any, .any, .any, .any, .any, .any, .any, .any, .any, .any, .any, .any, .any, .any, .any, .any, .any, .any, .any, .any, .any, .any, .any, .any, .any, .any, .any, .any, .any, .any, .any, .any, .any, .any, .any, .any, .any, .any] (h ++ [])) : ACalls Try.prog 22 [a0] h R := ACalls.intoN k22 rfl hw
theorem j22 {a0 : AV} {h : AH} {R : AE → AH → Prop} (hw : ∀ n, h.length = n → (∀ e ∈ h, e.lt n = true) → AV.ltL n [a0] = true → AV.bdL [a0] → aw Try.prog n c22 (retA [(.cell 2 true 4), (.tmp 3)] fun x h' => ∃ y z, h' = y ++ z ∧ y.length = n ∧ (∀ e ∈ y, e.lt n = true) ∧ x.lt n = true ∧ R x y) [a0, .any, .any, .any, .any, .any, .any, .any, .any, .any, .any, .any, .any, .any, .any, .any, .any, .any, .any, .any, .any, .any, .any, .any, .any, .any, .any, .any, .any, .any, .any, .any, .any, .any, .any, .any, .any, .any, .any] (h ++ [])) : ACalls Try.prog 22 [a0] h R := ACalls.intoG k22 rfl hw
abbrev P1 := List UInt8 × Bool × List Loc × Nat
abbrev P2 := List UInt8 × Bool × List Chg × Nat
def st1 (s : P1) : P1 := (d1S s.1, d1B s.1 s.2.1, s.2.2.1 ++ [d1L s.1], s.2.2.2 + 1)
def st2 (K : List Loc) (s : P2) : P2 := (d2S s.1, d2B K s.1 s.2.1, s.2.2.1 ++ [d2C K s.1], s.2.2.2 + 1)
def p1 (S : List UInt8) : P1 := iterT (fun s : P1 => s.2.1) st1 (nm (tkR 2 S)).toNat (tkS 2 S, tkB 2 S false, [], 0)
def q0 (S : List UInt8) : List UInt8 := tkS 2 (p1 S).1
def qB (S : List UInt8) : Bool := lcB (p1 S).2.2.1 (p1 S).1 (p1 S).2.1
def p2 (S : List UInt8) : P2 := iterT (fun s : P2 => s.2.1) (st2 (p1 S).2.2.1) (nm (tkR 2 (q0 S))).toNat (tkS 2 (q0 S), tkB 2 (q0 S) (qB S), [], 0)
def pT (S : List UInt8) : Tab := (lcR (p1 S).2.2.1 (p1 S).1, (p2 S).2.2.1)
def decV (S : List UInt8) : Tab × Int := if (p2 S).2.1 = false ∧ checkT (pT S) = 0 ∧ enc (pT S) = S then (pT S, 0) else (noTab, 1)
theorem iterT_inv {σ : Type} {sh : σ → Bool} {step : σ → σ} {Inv : Nat → σ → Prop} (hI : ∀ k s, Inv (k + 1) s → sh s = false → Inv k (step s)) : ∀ (m : Nat) (s : σ), Inv m s → ∃ k, Inv k (iterT sh step m s)
  | 0, s, h => ⟨0, h⟩
  | m + 1, s, h => by
    cases hs : sh s
    · rw [iterT_no hs]; exact iterT_inv hI m _ (hI m s h hs)
    · rw [iterT_sh _ hs]; exact ⟨_, h⟩
def Inv1 (k : Nat) (s : P1) : Prop := s.2.2.1.length + k ≤ 65535 ∧ ∀ x ∈ s.2.2.1, x.2.2.size ≤ maxLen
def Inv2 (k : Nat) (s : P2) : Prop := s.2.2.1.length + k ≤ 65535 ∧ ∀ x ∈ s.2.2.1, x.2.2.2.size ≤ maxLen
theorem nm2_bd (S : List UInt8) : (nm (tkR 2 S)).toNat ≤ 65535 := by
  have hb := nm_bd (tkR 2 S)
  have hl := tkR_len 2 S
  have : (256 : Int) ^ (tkR 2 S).length ≤ 256 ^ 2 := by exact_mod_cast Nat.pow_le_pow_right (by omega) hl
  omega
theorem d1L_ok (S : List UInt8) : (d1L S).2.2.size ≤ maxLen := by
  have h1 := nmR_bd (n := 1) (by omega) (s2 S)
  have h2 := tkR_len (nl S) (s3 S)
  have h3 : nl S ≤ 1099511627776 := by unfold nl; omega
  show (tkR (nl S) (s3 S)).length ≤ maxLen
  unfold maxLen
  omega
theorem inv1_step : ∀ k s, Inv1 (k + 1) s → s.2.1 = false → Inv1 k (st1 s) := by
  rintro k s ⟨h1, h2⟩ _
  refine ⟨by simp only [st1, List.length_append, List.length_singleton]; omega, fun x hx => ?_⟩
  simp only [st1] at hx
  rcases List.mem_append.1 hx with h | h
  · exact h2 x h
  · simp at h; subst h; exact d1L_ok _
theorem lcR_ok {K : List Loc} (hK : ∀ x ∈ K, x.2.2.size ≤ maxLen) (S : List UInt8) : (lcR K S).2.2.size ≤ maxLen := by
  unfold lcR
  rw [List.getD_eq_getElem?_getD]
  cases h : K[(nm (tkR 2 S)).toNat]? with
  | none => decide
  | some x => exact hK x (List.mem_of_getElem? h)
theorem inv2_step {K : List Loc} (hK : ∀ x ∈ K, x.2.2.size ≤ maxLen) : ∀ k s, Inv2 (k + 1) s → s.2.1 = false → Inv2 k (st2 K s) := by
  rintro k s ⟨h1, h2⟩ _
  refine ⟨by simp only [st2, List.length_append, List.length_singleton]; omega, fun x hx => ?_⟩
  simp only [st2] at hx
  rcases List.mem_append.1 hx with h | h
  · exact h2 x h
  · simp at h; subst h; exact lcR_ok hK _
abbrev zT : Ent := .mk 0 26 4 [.v (.int .i64 0), .v (.int .i64 0), .v (.string ⟨#[]⟩), .sl 0 0 true []]
set_option maxHeartbeats 1000000 in
theorem decode_a {S : List UInt8} {h : AH} : ACalls Try.prog 22 [sb S] h fun x h' => h' = h ∧ x = .ret (.tup [tabA (decV S).1, iv (decV S).2]) := by
  have hz : Wk (.agg [.v (.int .i64 0), .v (.int .i64 0), .v (.string ⟨#[]⟩), .sl 0 0 true []]) (tabA noTab) := Wk.agg (wk1 rfl (wk1 rfl (wk1 rfl (wkw Wk.nilF wk0))))
  have hm1 := nm2_bd S
  refine w22 ?_
  intro N hn hlt hlA hbd
  try simp only [AV.bdL, AV.bd, and_true, true_and] at hbd
  refine w_seq ?_
  refine w_reg ?_
  refine s_eff rfl rfl (e_new (hl0 hn) ha0) pt2 ?_
  refine s_val rfl (v_mv lki) pt3 ?_
  refine s_nil ?_
  refine n_seq ?_
  refine w_seq ?_
  refine w_reg ?_
  refine s_val rfl (v_mv lk0) pt6 ?_
  refine s_val rfl (v_build (WDecC_Decode_4 (cvl lk6 rfl) rfl)) pt7 ?_
  refine s_eff rfl rfl (e_box (cvl lk7 rfl) rfl (hl1 hn) ha1) pt8 ?_
  refine s_eff rfl rfl (e_new (hl2 hn) ha2) pt4 ?_
  refine s_eff rfl rfl (e_store lk4 (cvl lk8 rfl) (hga hn rfl) rfl (Nat.le_of_ble_eq_true rfl) rfl WDecC_sc0_1 (hs2 hn)) ptn ?_
  refine s_nil ?_
  refine n_seqw (ALe.trans (ALe.own0Cell (st' := 3) (ty := 23) (hga hn rfl) gt2 (hl3 hn) pt2 (Eq.trans (congrArg (fun z => List.set z _ _) ha3) (hs1 hn))) (ALe.icePtr (hga hn rfl) gt4 (by simp) pt4 (hs2 hn))) ?_
  refine w_seq ?_
  refine w_drwR [] ?_
  refine d_ldR lk4 rfl pt9 ?_
  refine d_val rfl (v_loadr lk4 gt0) pt10 ?_
  refine d_nil ?_
  refine k_e_nil ?_
  refine k_calls (mp1 lk10 (mp1 lki mp0)) (number_a (n := 2) (hga hn rfl) (by simp [AV.lt, hn]) (by omega)) (hs1 hn) (by intro i hi; simp at hi) pt11 ?_
  refine k_val rfl (v_mkfn (mp1 lk4 mp0)) pt12 ?_
  refine k_call (mp1 lk9 (mp1 lk11 (mp1 lk12 mp0))) (times_a (H := fun s : P1 => h ++ [zT, .mk 0 70 3 [sb s.1, bv s.2.1, .own (N + 3) s.2.2.2 s.2.2.1.length], .gone, .mk s.2.2.2 23 3 (rows locC s.2.2.1)]) (sh := fun s : P1 => s.2.1) (step := st1) (Inv := Inv1) (f := 43) (caps := [.rp [.ptr (N + 1) 0 0]]) (m := (nm (tkR 2 S)).toNat) (s0 := (tkS 2 S, tkB 2 S false, [], 0)) (fun s => ⟨_, _, hga hn rfl⟩) inv1_step (fun k s hs _ => (d1_a (hga hn rfl) (hga hn rfl) (by omega) (by have := hs.1; omega)).mono fun r h' hr => ⟨hr.1, by rw [hr.2, hs1 hn, hs3 hn]; rfl⟩) (by have := nmR_bd (n := 2) (by omega) S; omega) (by have := nmR_bd (n := 2) (by omega) S; omega) ⟨by simpa using hm1, by intro x hx; cases hx⟩) (by intro i hi; simp at hi) pt13 ?_
  have hJ1 := iterT_inv inv1_step (nm (tkR 2 S)).toNat (tkS 2 S, tkB 2 S false, [], 0) ⟨by simpa using hm1, by intro x hx; cases hx⟩
  try dsimp only
  have hp1 : p1 S = iterT (fun s : P1 => s.2.1) st1 (nm (tkR 2 S)).toNat (tkS 2 S, tkB 2 S false, [], 0) := rfl
  rw [← hp1] at hJ1 ⊢
  obtain ⟨kJ, hJ2, hJ3⟩ := hJ1
  generalize hQ1 : p1 S = Q1 at hJ2 hJ3 ⊢
  obtain ⟨S1, b1, K1, v1⟩ := Q1
  dsimp only at hJ2 hJ3 ⊢
  refine k_nil ?_
  refine n_seqw (ALe.iceCellR (hga hn rfl) (hga hn rfl) (by omega) gt2 (List.take_of_length_le (by rw [loc_len]; exact Nat.le_refl _)) (by rw [loc_len]; exact Nat.le_refl _) pt2 (hs3 hn) (hs1 hn)) ?_
  refine w_seq ?_
  refine w_reg ?_
  refine s_val rfl (v_loadr lk4 gt0) pt14 ?_
  refine s_calls (mp1 lk14 mp0) (rlocal_a (K := K1) (hga hn rfl)) (hs1 hn) pt15 ?_
  refine s_val rfl (v_build (WDecC_Decode_15 (cvl lk15 rfl) rfl)) pt16 ?_
  refine s_eff rfl rfl (e_new (hl4 hn) ha4) pt5 ?_
  refine s_eff rfl rfl (e_store lk5 (cvl lk16 rfl) (hga hn rfl) rfl (Nat.le_of_ble_eq_true rfl) rfl WDecC_sc0_4 (hs4 hn)) ptn ?_
  refine s_nil ?_
  refine n_seqw (ALe.own0Cell (st' := 4) (ty := 46) (hga hn rfl) gt3 (hl5 hn) pt3 (Eq.trans (congrArg (fun z => List.set z _ _) ha5) (hs4 hn))) ?_
  have hm2 := nm2_bd (tkS 2 S1)
  refine w_seq ?_
  refine w_drwR [] ?_
  refine d_ldR lk4 rfl pt17 ?_
  refine d_val rfl (v_loadr lk4 gt0) pt18 ?_
  refine d_nil ?_
  refine k_e_nil ?_
  refine k_calls (mp1 lk18 (mp1 lki mp0)) (number_a (n := 2) (hga hn rfl) (by simp [AV.lt, loc_lt]) (by omega)) (hs1 hn) (by intro i hi; simp at hi) pt19 ?_
  refine k_val rfl (v_mkfn (mp1 lk4 (mp1 lk5 mp0))) pt20 ?_
  refine k_call (mp1 lk17 (mp1 lk19 (mp1 lk20 mp0))) (times_a (H := fun s : P2 => h ++ [zT, .mk 0 70 3 [sb s.1, bv s.2.1, .sl K1.length 3 false (rows locC K1)], .gone, .gone, .mk 0 26 4 [iv (lcR K1 S1).1, iv (lcR K1 S1).2.1, sv (lcR K1 S1).2.2, .own (N + 5) s.2.2.2 s.2.2.1.length], .mk s.2.2.2 46 4 (rows chgC s.2.2.1)]) (sh := fun s : P2 => s.2.1) (step := st2 K1) (Inv := Inv2) (f := 46) (caps := [.rp [.ptr (N + 1) 0 0], .ptr (N + 4) 0 0]) (m := (nm (tkR 2 (tkS 2 S1))).toNat) (s0 := (tkS 2 (tkS 2 S1), tkB 2 (tkS 2 S1) (lcB K1 S1 b1), [], 0)) (fun s => ⟨_, _, hga hn rfl⟩) (inv2_step hJ3) (fun k s hs _ => (d2_a (hga hn rfl) (hga hn rfl) (hga hn rfl) (by omega) (by omega) (by omega) (by have := hs.1; omega)).mono fun r h' hr => ⟨hr.1, by rw [hr.2, hs1 hn, hs4 hn, hs5 hn]; rfl⟩) (by have := nmR_bd (n := 2) (by omega) (tkS 2 S1); omega) (by have := nmR_bd (n := 2) (by omega) (tkS 2 S1); omega) ⟨by simpa using hm2, by intro x hx; cases hx⟩) (by intro i hi; simp at hi) pt21 ?_
  have hJ4 := iterT_inv (inv2_step hJ3) (nm (tkR 2 (tkS 2 S1))).toNat (tkS 2 (tkS 2 S1), tkB 2 (tkS 2 S1) (lcB K1 S1 b1), [], 0) ⟨by simpa using hm2, by intro x hx; cases hx⟩
  try dsimp only
  have hp2 : p2 S = iterT (fun s : P2 => s.2.1) (st2 K1) (nm (tkR 2 (tkS 2 S1))).toNat (tkS 2 (tkS 2 S1), tkB 2 (tkS 2 S1) (lcB K1 S1 b1), [], 0) := by simp only [p2, q0, qB, hQ1]
  rw [← hp2] at hJ4 ⊢
  obtain ⟨kJ2, hJ5, hJ6⟩ := hJ4
  generalize hQ2 : p2 S = Q2 at hJ5 hJ6 ⊢
  obtain ⟨S2, b2, C2, v2⟩ := Q2
  dsimp only at hJ5 hJ6 ⊢
  have hpT : pT S = (lcR K1 S1, C2) := by simp only [pT, hQ1, hQ2]
  refine k_nil ?_
  refine n_seqw (ALe.iceCellR (hga hn rfl) (hga hn rfl) (by omega) gt3 (List.take_of_length_le (by rw [chg_len]; exact Nat.le_refl _)) (by rw [chg_len]; exact Nat.le_refl _) pt3 (hs5 hn) (hs4 hn)) ?_
  refine w_seq ?_
  refine w_seq ?_
  refine w_reg ?_
  refine s_val rfl (v_loadr lk4 gt0) pt22 ?_
  refine s_val rfl (v_nckp lk22) pt23 ?_
  refine s_val rfl (v_fap0 lk23) pt24 ?_
  refine s_val rfl (v_loadp lk24 (hga hn rfl) gt1) pt25 ?_
  refine s_val rfl (v_mv lk25) pt26 ?_
  refine s_splitB gt26 pt26 pt26 (fun hg26 => ?_) (fun hg26 => ?_)
  · skip
    refine s_no gt26 pt27 ?_
    refine s_no gt26 pt28 ?_
    refine s_no gt26 pt29 ?_
    refine s_val rfl (v_pickT lk26 lkb) pt30 ?_
    refine s_val rfl (v_mv lk30) pt31 ?_
    refine s_no gt31 pt32 ?_
    refine s_no gt31 pt33 ?_
    refine s_no gt31 pt34 ?_
    refine s_no gt31 pt35 ?_
    refine s_val rfl (v_pickT lk31 lkb) pt36 ?_
    refine s_nil ?_
    refine n_seq ?_
    refine w_condT lk36 ?_
    refine w_seq ?_
    refine w_reg ?_
    refine s_val rfl (v_build WDecC_Decode_38) pt37 ?_
    refine s_eff rfl rfl (e_store lk2 (cvl lk37 rfl) (hga hn rfl) rfl (Nat.le_of_ble_eq_true rfl) rfl WDecC_sc0_4 (hs0 hn)) ptn ?_
    refine s_val rfl (v_mv lki) pt3 ?_
    refine s_nil ?_
    refine n_seq ?_
    refine w_rets ?_
    refine r_thn ?_
    refine w_ret (rsn (rm1 (rr_c gt2 (hga hn rfl) (ld1 WDecC_tk0_4 rfl)) (rm1 (rr_t gt3) rm0))) ?_
    refine rtw (by first | rfl | (simp only [AV.lt, AV.ltL, Ent.lt, List.all_cons, List.all_nil, Bool.and_true, Bool.and_self, decide_true, chg_lt, u8_lt, loc_lt, in_lt, ltL_app]; done) | (simp [AV.lt, AV.ltL, Ent.lt, chg_lt, u8_lt, loc_lt, in_lt, ltL_app, *]; done) | (simp [AV.lt, AV.ltL, Ent.lt, chg_lt, u8_lt, loc_lt, in_lt, ltL_app, *]; omega)) ?_
    have hd : decV S = (noTab, 1) := if_neg (by rintro ⟨e, _⟩; rw [hQ2] at e; simp only at e; rw [hg26] at e; cases e)
    rw [hd]; exact Wk.tup (wkw hz (wk1 rfl wk0))
  · skip
    refine s_do gt26 ?_
    refine s_val rfl (v_loadpA lk5 (hga hn rfl) WDecC_tk0_4 rfl) pt27 ?_
    refine s_do gt26 ?_
    refine s_callp (mp1 lk27 mp0) (check_a (l := C2) (lcR_ok hJ3 S1) hJ6) pt28 ?_
    refine s_do gt26 ?_
    refine s_val rfl (v_neq lk28 lki) pt29 ?_
    refine s_val rfl (v_pickF lk26 lk29) pt30 ?_
    refine s_val rfl (v_mv lk30) pt31 ?_
    first | refine s_splitP gt31 pt31 pt31 (fun hg31 => ?_) (fun hg31 => ?_) | refine s_splitB gt31 pt31 pt31 (fun hg31 => ?_) (fun hg31 => ?_)
    · skip
      refine s_no gt31 pt32 ?_
      refine s_no gt31 pt33 ?_
      refine s_no gt31 pt34 ?_
      refine s_no gt31 pt35 ?_
      refine s_val rfl (v_pickT lk31 lkb) pt36 ?_
      refine s_nil ?_
      refine n_seq ?_
      refine w_condT lk36 ?_
      refine w_seq ?_
      refine w_reg ?_
      refine s_val rfl (v_build WDecC_Decode_38) pt37 ?_
      refine s_eff rfl rfl (e_store lk2 (cvl lk37 rfl) (hga hn rfl) rfl (Nat.le_of_ble_eq_true rfl) rfl WDecC_sc0_4 (hs0 hn)) ptn ?_
      refine s_val rfl (v_mv lki) pt3 ?_
      refine s_nil ?_
      refine n_seq ?_
      refine w_rets ?_
      refine r_thn ?_
      refine w_ret (rsn (rm1 (rr_c gt2 (hga hn rfl) (ld1 WDecC_tk0_4 rfl)) (rm1 (rr_t gt3) rm0))) ?_
      refine rtw (by first | rfl | (simp only [AV.lt, AV.ltL, Ent.lt, List.all_cons, List.all_nil, Bool.and_true, Bool.and_self, decide_true, chg_lt, u8_lt, loc_lt, in_lt, ltL_app]; done) | (simp [AV.lt, AV.ltL, Ent.lt, chg_lt, u8_lt, loc_lt, in_lt, ltL_app, *]; done) | (simp [AV.lt, AV.ltL, Ent.lt, chg_lt, u8_lt, loc_lt, in_lt, ltL_app, *]; omega)) ?_
      have hd : decV S = (noTab, 1) := if_neg (by rintro ⟨_, e, _⟩; rw [hpT] at e; exact hg31 e)
      rw [hd]; exact Wk.tup (wkw hz (wk1 rfl wk0))
    · skip
      refine s_do gt31 ?_
      refine s_val rfl (v_loadpA lk5 (hga hn rfl) WDecC_tk0_4 rfl) pt32 ?_
      refine s_do gt31 ?_
      refine s_callp (mp1 lk32 mp0) (bytes_a (t := (lcR K1 S1, C2)) ⟨lcR_ok hJ3 S1, hJ6⟩ (Decidable.of_not_not hg31)) pt33 ?_
      refine s_do gt31 ?_
      refine s_val rfl (v_mv lk0) pt34 ?_
      refine s_do gt31 ?_
      refine s_val rfl (v_neqS lk33 lk34) pt35 ?_
      refine s_val rfl (v_pickF lk31 lk35) pt36 ?_
      refine s_nil ?_
      refine n_seq ?_
      first | refine w_cond lk36 (fun hc1 => ?_) (fun hc1 => ?_) | refine w_condB lk36 (fun hc1 => ?_) (fun hc1 => ?_)
      · skip
        refine w_seq ?_
        refine w_reg ?_
        refine s_val rfl (v_build WDecC_Decode_38) pt37 ?_
        refine s_eff rfl rfl (e_store lk2 (cvl lk37 rfl) (hga hn rfl) rfl (Nat.le_of_ble_eq_true rfl) rfl WDecC_sc0_4 (hs0 hn)) ptn ?_
        refine s_val rfl (v_mv lki) pt3 ?_
        refine s_nil ?_
        refine n_seq ?_
        refine w_rets ?_
        refine r_thn ?_
        refine w_ret (rsn (rm1 (rr_c gt2 (hga hn rfl) (ld1 WDecC_tk0_4 rfl)) (rm1 (rr_t gt3) rm0))) ?_
        refine rtw (by first | rfl | (simp only [AV.lt, AV.ltL, Ent.lt, List.all_cons, List.all_nil, Bool.and_true, Bool.and_self, decide_true, chg_lt, u8_lt, loc_lt, in_lt, ltL_app]; done) | (simp [AV.lt, AV.ltL, Ent.lt, chg_lt, u8_lt, loc_lt, in_lt, ltL_app, *]; done) | (simp [AV.lt, AV.ltL, Ent.lt, chg_lt, u8_lt, loc_lt, in_lt, ltL_app, *]; omega)) ?_
        have hd : decV S = (noTab, 1) := if_neg (by rintro ⟨_, _, e⟩; rw [hpT] at e; exact hc1 (by rw [e]))
        rw [hd]; exact Wk.tup (wkw hz (wk1 rfl wk0))
      · skip
        refine w_skip ?_
        refine n_seq ?_
        refine w_seq ?_
        refine w_reg ?_
        refine s_val rfl (v_loadpA lk5 (hga hn rfl) WDecC_tk0_4 rfl) pt38 ?_
        refine s_eff rfl rfl (e_store lk2 (cvl lk38 rfl) (hga hn rfl) rfl (Nat.le_of_ble_eq_true rfl) rfl WDecC_sc0_4 (hs0 hn)) ptn ?_
        refine s_val rfl (v_mv lki) pt3 ?_
        refine s_nil ?_
        refine n_seq ?_
        refine w_rets ?_
        refine w_ret (rsn (rm1 (rr_c gt2 (hga hn rfl) (ld1 WDecC_tk0_4 rfl)) (rm1 (rr_t gt3) rm0))) ?_
        refine rtw (by first | rfl | (simp only [AV.lt, AV.ltL, Ent.lt, List.all_cons, List.all_nil, Bool.and_true, Bool.and_self, decide_true, chg_lt, u8_lt, loc_lt, in_lt, ltL_app]; done) | (simp [AV.lt, AV.ltL, Ent.lt, chg_lt, u8_lt, loc_lt, in_lt, ltL_app, *]; done) | (simp [AV.lt, AV.ltL, Ent.lt, chg_lt, u8_lt, loc_lt, in_lt, ltL_app, *]; omega)) ?_
        have he : enc (lcR K1 S1, C2) = S := by
          have e0 := Decidable.of_not_not hc1
          have e1 := congrArg (fun b : ByteArray => b.data.toList) e0
          simpa using e1
        have hd : decV S = (pT S, 0) := if_pos ⟨by rw [hQ2]; exact hg26, by rw [hpT]; exact Decidable.of_not_not hg31, by rw [hpT]; exact he⟩
        rw [hd, hpT]; exact Wk.refl _
end Go.Proofs.Ytmbebimingkfeaa
