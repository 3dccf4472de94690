/-
  Contracts on plain data: the writer's put and kind, slices.Index of Locals. Conditions: those that each theorem names.
-/
import Derived.Test.YtmbebimingkfeaaWPlain
import Derived.Test.YtmbebimingkfeaaATabB
set_option linter.unusedVariables false
set_option linter.unusedSimpArgs false
set_option maxRecDepth 100000
namespace Go.Proofs.Ytmbebimingkfeaa
open Go.Ab Civ
section
theorem WEncA_put_11 {τ : Operand → AV} {y0 : Operand} {x0_0 : AV} (h0 : cellsV (τ y0) = some [x0_0]) (l0 : [x0_0].all leaf = true) : fillAV τ [(0, 1, y0)] [(.v (.int .u8 0))] = some [x0_0] := by
  simp only [fillAV, h0, l0]
  rfl
theorem WEncA_tk_1 {a0 : AV} {l : List AV} : (a0 :: l).take 1 = [a0] := rfl
theorem WEncA_sc0_1 {a0 c0 : AV} {l : List AV} : setCells (a0 :: l) 0 [c0] = c0 :: l := rfl
theorem WEncA_tk0_3 {a0 a1 a2 : AV} {l : List AV} : ((a0 :: a1 :: a2 :: l).drop 0).take 3 = [a0, a1, a2] := rfl
theorem WEncA_eq_iis {a0 b0 : Int} {a1 b1 : Int} {a2 b2 : ByteArray} : eqCells [.int, .int, .str] [iv a0, iv a1, sv a2] [iv b0, iv b1, sv b2] = some (decide (a0 = b0 ∧ a1 = b1 ∧ a2 = b2)) := by
  simp only [eqCells, eqLeaf, if_true, bytes_beq, Option.some.injEq]
  simp only [Bool.decide_and, Bool.and_true]
  try (congr 1 <;> simp)
  try rfl
theorem WEncA_kind_24 {τ : Operand → AV} {y0 : Operand} {x0_0 x0_1 x0_2 : AV} (h0 : cellsV (τ y0) = some [x0_0, x0_1, x0_2]) (l0 : [x0_0, x0_1, x0_2].all leaf = true) : fillAV τ [(0, 3, y0)] [(.v (.int .i64 0)), (.v (.int .i64 0)), (.v (.string ⟨#[]⟩))] = some [x0_0, x0_1, x0_2] := by
  simp only [fillAV, h0, l0]
  rfl
theorem WEncA_lap0 { e : Ent} : ([] : AH) ++ [e] = [e] := rfl
theorem WEncA_lj1_1 {e0 d0 : Ent} : ([e0] : AH) ++ [d0] = [e0, d0] := rfl
theorem WEncA_tk_3 {a0 a1 a2 : AV} {l : List AV} : (a0 :: a1 :: a2 :: l).take 3 = [a0, a1, a2] := rfl
theorem WEncA_sc1_1 {a0 a1 c0 : AV} {l : List AV} : setCells (a0 :: a1 :: l) 1 [c0] = a0 :: c0 :: l := rfl
end
/-- (*wire.writer).put -/
def c68 : AC := (.seq (.reg [⟨(some 6), none, (.mv (.tmp 2))⟩, ⟨(some 7), none, (.mv (.const (.int .i64 0)))⟩]) (.block 0 (.loop (.seq (.reg [⟨(some 8), none, (.bin .lss (.tmp 7) (.tmp 6))⟩]) (.seq (.cond (.tmp 8) .skip (.exit 0)) (.seq (.block 1 (.seq (.reg [⟨(some 9), none, (.mv (.tmp 0))⟩, ⟨(some 10), none, (.mv (.tmp 0))⟩, ⟨(some 11), none, (.nck (.tmp 10))⟩, ⟨(some 12), none, (.fa 0 (.tmp 11))⟩, ⟨(some 13), none, (.load false 1 (.tmp 12))⟩, ⟨(some 14), none, (.mv (.tmp 1))⟩, ⟨(some 15), none, (.cvi .u8 (.tmp 14))⟩, ⟨(some 16), none, (.lit 5 1 1 [(.v (.int .u8 0))] [(0, (1, (.tmp 15)))])⟩, ⟨(some 17), none, (.app 5 1 1 (.tmp 13) (.tmp 16))⟩, ⟨(some 18), none, (.nck (.tmp 9))⟩, ⟨(some 19), none, (.fa 0 (.tmp 18))⟩, ⟨none, none, (.store 1 (.tmp 19) (.tmp 17))⟩]) (.reg [⟨(some 20), none, (.mv (.tmp 1))⟩, ⟨(some 21), none, (.bin .shr (.tmp 20) (.const (.int .u64 8)))⟩, ⟨(some 1), none, (.mv (.tmp 21))⟩]))) (.reg [⟨(some 22), none, (.bin .add (.tmp 7) (.const (.int .i64 1)))⟩, ⟨(some 7), none, (.mv (.tmp 22))⟩])))))))
theorem k68 : compF Try.prog 68 = some ⟨c68, [], 23⟩ := by kernel_rfl
theorem i68 {a0 a1 a2 : AV} {h : AH} {R : AE → Prop} (hw : ∀ n, h.length = n → (∀ e ∈ h, e.lt n = true) → AV.ltL n [a0, a1, a2] = true → AV.bdL [a0, a1, a2] → aw Try.prog n c68 (retA [] fun x h' => ∃ z, h' = h ++ z ∧ x.lt n = true ∧ R x) [a0, a1, a2, .any, .any, .any, .any, .any, .any, .any, .any, .any, .any, .any, .any, .any, .any, .any, .any, .any, .any, .any, .any] (h ++ [])) : ACalls Try.prog 68 [a0, a1, a2] h fun x h' => h' = h ∧ R x := ACalls.into k68 rfl hw
theorem w68 {a0 a1 a2 : AV} {h : AH} {res : AV} (hw : ∀ n, h.length = n → (∀ e ∈ h, e.lt n = true) → AV.ltL n [a0, a1, a2] = true → AV.bdL [a0, a1, a2] → aw Try.prog n c68 (retA [] fun x h' => ∃ z, h' = h ++ z ∧ x.lt n = true ∧ ∃ c, x = .ret c ∧ Wk c res) [a0, a1, a2, .any, .any, .any, .any, .any, .any, .any, .any, .any, .any, .any, .any, .any, .any, .any, .any, .any, .any, .any, .any] (h ++ [])) : ACalls Try.prog 68 [a0, a1, a2] h fun x h' => h' = h ∧ x = .ret res := ACalls.weak (ACalls.into k68 rfl hw)
theorem n68 {a0 a1 a2 : AV} {h : AH} {R : AE → AH → Prop} (hw : ∀ n, h.length = n → (∀ e ∈ h, e.lt n = true) → AV.ltL n [a0, a1, a2] = true → AV.bdL [a0, a1, a2] → aw Try.prog n c68 (retA [] R) [a0, a1, a2, .any, .any, .any, .any, .any, .any, .any, .any, .any, .any, .any, .any, .any, .any, .any, .any, .any, .any, .any, .any] (h ++ [])) : ACalls Try.prog 68 [a0, a1, a2] h R := ACalls.intoN k68 rfl hw
theorem j68 {a0 a1 a2 : AV} {h : AH} {R : AE → AH → Prop} (hw : ∀ n, h.length = n → (∀ e ∈ h, e.lt n = true) → AV.ltL n [a0, a1, a2] = true → AV.bdL [a0, a1, a2] → aw Try.prog n c68 (retA [] fun x h' => ∃ y z, h' = y ++ z ∧ y.length = n ∧ (∀ e ∈ y, e.lt n = true) ∧ x.lt n = true ∧ R x y) [a0, a1, a2, .any, .any, .any, .any, .any, .any, .any, .any, .any, .any, .any, .any, .any, .any, .any, .any, .any, .any, .any, .any] (h ++ [])) : ACalls Try.prog 68 [a0, a1, a2] h R := ACalls.intoG k68 rfl hw
/-- slices.Index[[]api.Local,api.Local] -/
def c84 : AC := (.seq (.reg [⟨(some 3), none, (.box 23 3 (.tmp 1))⟩, ⟨(some 4), none, (.mv (.const (.int .i64 0)))⟩]) (.seq (.seq (.reg [⟨(some 6), none, (.mv (.tmp 0))⟩, ⟨(some 7), none, (.len false (.tmp 6))⟩, ⟨(some 8), none, (.mv (.const (.int .i64 0)))⟩]) (.block 0 (.loop (.seq (.reg [⟨(some 9), none, (.bin .lss (.tmp 8) (.tmp 7))⟩]) (.seq (.cond (.tmp 9) .skip (.exit 0)) (.seq (.block 1 (.seq (.reg [⟨(some 10), none, (.mv (.tmp 8))⟩, ⟨(some 5), none, (.mv (.tmp 10))⟩]) (.seq (.drw [⟨(some 11), none, (.load true 3 (.tmp 3))⟩, ⟨(some 12), none, (.mv (.tmp 0))⟩, ⟨(some 13), none, (.mv (.tmp 5))⟩, ⟨(some 14), none, (.ia 3 (.tmp 12) (.tmp 13))⟩, ⟨(some 15), none, (.load true 3 (.tmp 14))⟩, ⟨(some 16), none, (.eqs false [.int, .int, .str] (.tmp 11) (.tmp 15))⟩] [] []) (.cond (.tmp 16) (.seq (.reg [⟨(some 17), none, (.mv (.tmp 5))⟩, ⟨(some 4), none, (.mv (.tmp 17))⟩]) .ret) .skip)))) (.reg [⟨(some 18), none, (.bin .add (.tmp 8) (.const (.int .i64 1)))⟩, ⟨(some 8), none, (.mv (.tmp 18))⟩]))))))) (.seq (.reg [⟨(some 4), none, (.mv (.const (.int .i64 (-1))))⟩]) .ret)))
theorem k84 : compF Try.prog 84 = some ⟨c84, [(.tmp 4)], 19⟩ := by kernel_rfl
theorem i84 {a0 a1 : AV} {h : AH} {R : AE → Prop} (hw : ∀ n, h.length = n → (∀ e ∈ h, e.lt n = true) → AV.ltL n [a0, a1] = true → AV.bdL [a0, a1] → aw Try.prog n c84 (retA [(.tmp 4)] fun x h' => ∃ z, h' = h ++ z ∧ x.lt n = true ∧ R x) [a0, a1, .any, .any, .any, .any, .any, .any, .any, .any, .any, .any, .any, .any, .any, .any, .any, .any, .any] (h ++ [])) : ACalls Try.prog 84 [a0, a1] h fun x h' => h' = h ∧ R x := ACalls.into k84 rfl hw
theorem w84 {a0 a1 : AV} {h : AH} {res : AV} (hw : ∀ n, h.length = n → (∀ e ∈ h, e.lt n = true) → AV.ltL n [a0, a1] = true → AV.bdL [a0, a1] → aw Try.prog n c84 (retA [(.tmp 4)] fun x h' => ∃ z, h' = h ++ z ∧ x.lt n = true ∧ ∃ c, x = .ret c ∧ Wk c res) [a0, a1, .any, .any, .any, .any, .any, .any, .any, .any, .any, .any, .any, .any, .any, .any, .any, .any, .any] (h ++ [])) : ACalls Try.prog 84 [a0, a1] h fun x h' => h' = h ∧ x = .ret res := ACalls.weak (ACalls.into k84 rfl hw)
theorem n84 {a0 a1 : AV} {h : AH} {R : AE → AH → Prop} (hw : ∀ n, h.length = n → (∀ e ∈ h, e.lt n = true) → AV.ltL n [a0, a1] = true → AV.bdL [a0, a1] → aw Try.prog n c84 (retA [(.tmp 4)] R) [a0, a1, .any, .any, .any, .any, .any, .any, .any, .any, .any, .any, .any, .any, .any, .any, .any, .any, .any] (h ++ [])) : ACalls Try.prog 84 [a0, a1] h R := ACalls.intoN k84 rfl hw
theorem j84 {a0 a1 : AV} {h : AH} {R : AE → AH → Prop} (hw : ∀ n, h.length = n → (∀ e ∈ h, e.lt n = true) → AV.ltL n [a0, a1] = true → AV.bdL [a0, a1] → aw Try.prog n c84 (retA [(.tmp 4)] fun x h' => ∃ y z, h' = y ++ z ∧ y.length = n ∧ (∀ e ∈ y, e.lt n = true) ∧ x.lt n = true ∧ R x y) [a0, a1, .any, .any, .any, .any, .any, .any, .any, .any, .any, .any, .any, .any, .any, .any, .any, .any, .any] (h ++ [])) : ACalls Try.prog 84 [a0, a1] h R := ACalls.intoG k84 rfl hw
/-- (*wire.writer).kind -/
def c67 : AC := (.seq (.reg [⟨(some 3), none, (.box 23 3 (.tmp 1))⟩, ⟨(some 4), none, (.mv (.const (.int .i64 0)))⟩]) (.seq (.drw [⟨(some 6), none, (.mv (.tmp 0))⟩, ⟨(some 7), none, (.nck (.tmp 6))⟩, ⟨(some 8), none, (.fa 1 (.tmp 7))⟩, ⟨(some 9), none, (.load false 1 (.tmp 8))⟩, ⟨(some 10), none, (.load true 3 (.tmp 3))⟩, ⟨(some 11), none, (.call (.func 84) [(.tmp 9), (.tmp 10)])⟩, ⟨(some 5), none, (.mv (.tmp 11))⟩] [] []) (.seq (.seq (.reg [⟨(some 12), none, (.mv (.tmp 5))⟩, ⟨(some 13), none, (.bin .lss (.tmp 12) (.const (.int .i64 0)))⟩]) (.cond (.tmp 13) (.seq (.reg [⟨(some 14), none, (.mv (.tmp 0))⟩, ⟨(some 15), none, (.nck (.tmp 14))⟩, ⟨(some 16), none, (.fa 1 (.tmp 15))⟩, ⟨(some 17), none, (.load false 1 (.tmp 16))⟩, ⟨(some 18), none, (.len false (.tmp 17))⟩, ⟨(some 5), none, (.mv (.tmp 18))⟩]) (.drw [⟨(some 19), none, (.mv (.tmp 0))⟩, ⟨(some 20), none, (.mv (.tmp 0))⟩, ⟨(some 21), none, (.nck (.tmp 20))⟩, ⟨(some 22), none, (.fa 1 (.tmp 21))⟩, ⟨(some 23), none, (.load false 1 (.tmp 22))⟩, ⟨(some 24), none, (.load true 3 (.tmp 3))⟩, ⟨(some 25), none, (.lit 23 3 1 [(.v (.int .i64 0)), (.v (.int .i64 0)), (.v (.string ⟨#[]⟩))] [(0, (3, (.tmp 24)))])⟩] [false, false, false, false] [⟨(some 26), none, (.app 23 3 32 (.tmp 23) (.tmp 25))⟩, ⟨(some 27), none, (.nck (.tmp 19))⟩, ⟨(some 28), none, (.fa 1 (.tmp 27))⟩, ⟨none, none, (.store 1 (.tmp 28) (.tmp 26))⟩])) .skip)) (.seq (.reg [⟨(some 29), none, (.mv (.tmp 5))⟩, ⟨(some 4), none, (.mv (.tmp 29))⟩]) .ret))))
theorem k67 : compF Try.prog 67 = some ⟨c67, [(.tmp 4)], 30⟩ := by kernel_rfl
theorem i67 {a0 a1 : AV} {h : AH} {R : AE → Prop} (hw : ∀ n, h.length = n → (∀ e ∈ h, e.lt n = true) → AV.ltL n [a0, a1] = true → AV.bdL [a0, a1] → aw Try.prog n c67 (retA [(.tmp 4)] fun x h' => ∃ z, h' = h ++ z ∧ x.lt n = true ∧ R x) [a0, a1, .any, .any, .any, .any, .any, .any, .any, .any, .any, .any, .any, .any, .any, .any, .any, .any, .any, .any, .any, .any, .any, .any, .any, .any, .any, .any, .any, .any] (h ++ [])) : ACalls Try.prog 67 [a0, a1] h fun x h' => h' = h ∧ R x := ACalls.into k67 rfl hw
theorem w67 {a0 a1 : AV} {h : AH} {res : AV} (hw : ∀ n, h.length = n → (∀ e ∈ h, e.lt n = true) → AV.ltL n [a0, a1] = true → AV.bdL [a0, a1] → aw Try.prog n c67 (retA [(.tmp 4)] fun x h' => ∃ z, h' = h ++ z ∧ x.lt n = true ∧ ∃ c, x = .ret c ∧ Wk c res) [a0, a1, .any, .any, .any, .any, .any, .any, .any, .any, .any, .any, .any, .any, .any, .any, .any, .any, .any, .any, .any, .any, .any, .any, .any, .any, .any, .any, .any, .any] (h ++ [])) : ACalls Try.prog 67 [a0, a1] h fun x h' => h' = h ∧ x = .ret res := ACalls.weak (ACalls.into k67 rfl hw)
theorem n67 {a0 a1 : AV} {h : AH} {R : AE → AH → Prop} (hw : ∀ n, h.length = n → (∀ e ∈ h, e.lt n = true) → AV.ltL n [a0, a1] = true → AV.bdL [a0, a1] → aw Try.prog n c67 (retA [(.tmp 4)] R) [a0, a1, .any, .any, .any, .any, .any, .any, .any, .any, .any, .any, .any, .any, .any, .any, .any, .any, .any, .any, .any, .any, .any, .any, .any, .any, .any, .any, .any, .any] (h ++ [])) : ACalls Try.prog 67 [a0, a1] h R := ACalls.intoN k67 rfl hw
theorem j67 {a0 a1 : AV} {h : AH} {R : AE → AH → Prop} (hw : ∀ n, h.length = n → (∀ e ∈ h, e.lt n = true) → AV.ltL n [a0, a1] = true → AV.bdL [a0, a1] → aw Try.prog n c67 (retA [(.tmp 4)] fun x h' => ∃ y z, h' = y ++ z ∧ y.length = n ∧ (∀ e ∈ y, e.lt n = true) ∧ x.lt n = true ∧ R x y) [a0, a1, .any, .any, .any, .any, .any, .any, .any, .any, .any, .any, .any, .any, .any, .any, .any, .any, .any, .any, .any, .any, .any, .any, .any, .any, .any, .any, .any, .any] (h ++ [])) : ACalls Try.prog 67 [a0, a1] h R := ACalls.intoG k67 rfl hw
abbrev locC (l : Loc) : List AV := [iv l.1, iv l.2.1, sv l.2.2]
abbrev inC (n : Nat) : List AV := [iv (n : Int)]
theorem u8_lt {n : Nat} (l : List UInt8) : AV.ltL n (rows u8R l) = true := rows_lt (fun _ _ => rfl) l
theorem loc_lt {n : Nat} (l : List Loc) : AV.ltL n (rows locC l) = true := rows_lt (fun _ _ => rfl) l
theorem in_lt {n : Nat} (l : List Nat) : AV.ltL n (rows inC l) = true := rows_lt (fun _ _ => rfl) l
theorem ltL_app {n : Nat} : ∀ {a b : List AV}, AV.ltL n (a ++ b) = (AV.ltL n a && AV.ltL n b)
  | [], b => by simp [AV.ltL]
  | c :: a, b => by simp only [List.cons_append, AV.ltL, ltL_app (a := a), Bool.and_assoc]
theorem u8_len1 : ∀ x, (u8R x).length = 1 := fun _ => rfl
theorem u8_leaf (l : List UInt8) : (rows u8R l).all leaf = true := rows_leaf (fun _ => rfl) l
theorem loc_leaf (l : List Loc) : (rows locC l).all leaf = true := rows_leaf (fun _ => rfl) l
theorem in_leaf (l : List Nat) : (rows inC l).all leaf = true := rows_leaf (fun _ => rfl) l
theorem loc_len1 : ∀ x, (locC x).length = 3 := fun _ => rfl
theorem in_len1 : ∀ x, (inC x).length = 1 := fun _ => rfl
theorem u8_len (l : List UInt8) : (rows u8R l).length = l.length * 1 := rows_len u8_len1 l
theorem loc_len (l : List Loc) : (rows locC l).length = l.length * 3 := rows_len loc_len1 l
theorem in_len (l : List Nat) : (rows inC l).length = l.length * 1 := rows_len in_len1 l
theorem wrap8 (n : Int) : IntKind.u8.wrap n = ((UInt8.ofNat (n % 256).toNat).toNat : Int) := by
  rw [UInt8.toNat_ofNat', Nat.mod_eq_of_lt (by omega)]
  simp [IntKind.wrap, IntKind.bits, IntKind.signed]
  omega
theorem v_cvi8 {h : AH} {T : List AV} {x : Operand} {n : Int} {k' : IntKind} (hx : aEval T x = .v (.int k' n)) : aval h (aEval T) (.cvi .u8 x) = some (.v (.int .u8 ((UInt8.ofNat (n % 256).toNat).toNat : Int))) := by
  rw [v_cvi hx, wrap8]
theorem v_shr8 {h : AH} {T : List AV} {x y : Operand} {n : Int} {kd : IntKind} (hx : aEval T x = iv n) (hy : aEval T y = .v (.int kd 8)) : aval h (aEval T) (.bin .shr x y) = some (iv (n / 256)) := v_bin hx hy (by
  simp only [vBin]
  rw [if_neg (by omega)]
  congr 3
  have : (2 : Int) ^ (min (8 : Int).toNat IntKind.i64.bits) = 256 := by decide
  rw [this]
  exact Int.fdiv_eq_ediv_of_nonneg n (by omega))
theorem put_a {L : List UInt8} {K : AV} {id ib v0 v ty : Nat} {n : Int} {k : Nat} {h : AH} (h1 : h[id]? = some (.mk v0 ty 2 [.own ib v L.length, K])) (h2 : h[ib]? = some (.mk v 5 1 (rows u8R L))) (hne : id ≠ ib) (hk : k ≤ 8) (hL : L.length ≤ 1000000000) (hK : K.lt h.length = true) :
    ACalls Try.prog 68 [.ptr id v0 0, iv n, iv (k : Int)] h fun r h' => r = .ret (.tup []) ∧ h' = (h.set id (.mk v0 ty 2 [.own ib (v + k) (L ++ le k n).length, K])).set ib (.mk (v + k) 5 1 (rows u8R (L ++ le k n))) := by
  have hid : id < h.length := (List.getElem?_eq_some_iff.1 h1).1
  have hib : ib < h.length := (List.getElem?_eq_some_iff.1 h2).1
  refine j68 ?_
  intro N hn hlt hlA hbd
  try simp only [AV.bdL, AV.bd, and_true, true_and] at hbd
  rw [hn] at hK
  have hib' : ib < N := by omega
  refine aw_heap (h1 := (h.set id (.mk v0 ty 2 [.own ib (v + 0) L.length, K])).set ib (.mk (v + 0) 5 1 (rows u8R L)) ++ []) (by rw [Nat.add_zero, hx2_self h1 h2]) ?_
  refine w_seq ?_
  refine w_reg ?_
  refine s_val rfl (v_mv lk2) pt6 ?_
  refine s_val rfl (v_mv lki) pt7 ?_
  refine s_nil ?_
  refine n_seq ?_
  refine w_block ?_
  refine w_loopH (ι := Nat × Int × List UInt8) (fun (x_ : Nat × Int × List UInt8) => match x_ with | ⟨i, m, M⟩ => [(1, iv m), (7, iv (i : Int)), (8, .any), (9, .any), (10, .any), (11, .any), (12, .any), (13, .any), (14, .any), (15, .any), (16, .any), (17, .any), (18, .any), (19, .any), (20, .any), (21, .any), (22, .any)]) (fun (x_ : Nat × Int × List UInt8) => match x_ with | ⟨i, m, M⟩ => (h.set id (.mk v0 ty 2 [.own ib (v + i) M.length, K])).set ib (.mk (v + i) 5 1 (rows u8R M)) ++ []) (fun (x_ : Nat × Int × List UInt8) => match x_ with | ⟨i, m, M⟩ => i ≤ k ∧ M.length = L.length + i ∧ L ++ le k n = M ++ le (k - i) m) (fun (x_ : Nat × Int × List UInt8) => match x_ with | ⟨i, m, M⟩ => k - i) (⟨0, n, L⟩) (by exact ⟨by omega, by omega, by simp⟩) (by try simp only [setsT, setsE, List.set_cons_zero, List.set_cons_succ]; exact ALe.same (wk1 rfl (wk1 (by first | rfl | exact ivx (by omega) | (simp; done)) (wk1 rfl (wk1 rfl (wk1 rfl (wk1 rfl (wk1 rfl (wk1 (by first | rfl | exact ivx (by omega) | (simp; done)) (wka (wka (wka (wka (wka (wka (wka (wka (wka (wka (wka (wka (wka (wka (wka wk0))))))))))))))))))))))) rfl) ?_
  rintro ⟨i, m, M⟩ hi1
  try simp only [setsT, setsE, List.set_cons_zero, List.set_cons_succ]
  obtain ⟨hk1, hk2, hk3⟩ := hi1
  refine w_seq ?_
  refine w_reg ?_
  refine s_val rfl (v_lss lk7 lk6) pt8 ?_
  refine s_nil ?_
  refine n_seq ?_
  refine w_seq ?_
  first | refine w_cond lk8 (fun hc1 => ?_) (fun hc1 => ?_) | refine w_condB lk8 (fun hc1 => ?_) (fun hc1 => ?_)
  · skip
    refine w_skip ?_
    refine n_seq ?_
    refine w_seq ?_
    refine w_block ?_
    refine w_seq ?_
    refine w_reg ?_
    refine s_val rfl (v_mv lk0) pt9 ?_
    refine s_val rfl (v_mv lk0) pt10 ?_
    refine s_val rfl (v_nckp lk10) pt11 ?_
    refine s_val rfl (v_fap0 lk11) pt12 ?_
    refine s_val rfl (v_loadp lk12 (hx2_at1 hne hid) gt0) pt13 ?_
    refine s_val rfl (v_mv lk1) pt14 ?_
    refine s_val rfl (v_cvi8 lk14) pt15 ?_
    refine s_eff rfl rfl (e_lit (WEncA_put_11 (cvl lk15 rfl) rfl) (hl0 (hx2_len hn)) ha0) pt16 ?_
    refine s_eff rfl rfl (e_app (sc_own lk16 (hga (hx2_len hn) rfl) rfl WEncA_tk_1 (Nat.le_of_ble_eq_true rfl)) lk13 (hx2_at2 hib) (u8_len _) (by omega) rfl (hx2_set2 hib)) pt17 ?_
    refine s_val rfl (v_nckp lk9) pt18 ?_
    refine s_val rfl (v_fap0 lk18) pt19 ?_
    refine s_eff rfl rfl (e_store lk19 (cvl lk17 rfl) (hx2_at1 hne hid) rfl (Nat.le_of_ble_eq_true rfl) rfl WEncA_sc0_1 (hx2_set1 hne hid)) ptn ?_
    refine s_nil ?_
    refine n_seq ?_
    refine w_reg ?_
    refine s_val rfl (v_mv lk1) pt20 ?_
    refine s_val rfl (v_shr8 lk20 lki) pt21 ?_
    refine s_val rfl (v_mv lk21) pt1 ?_
    refine s_nil ?_
    refine n_blk ?_
    refine n_seq ?_
    refine w_reg ?_
    refine s_val rfl (v_add lk7 lki (by omega) (by omega)) pt22 ?_
    refine s_val rfl (v_mv lk22) pt7 ?_
    refine s_nil ?_
    refine n_thn ?_
    refine LoopTo.mk (⟨i + 1, m / 256, M ++ [UInt8.ofNat (m % 256).toNat]⟩) (by omega) (by (try dsimp only); refine ⟨by omega, by simp; omega, ?_⟩; rw [hk3, show k - i = (k - (i + 1)) + 1 by omega, le]; simp) (by (try dsimp only); (try simp only [setsT, setsE, List.set_cons_zero, List.set_cons_succ]); exact ALe.trans (ALe.back (wk1 rfl (wk1 (by first | rfl | exact ivx (by omega) | (simp; done)) (wk1 rfl (wk1 rfl (wk1 rfl (wk1 rfl (wk1 rfl (wk1 (by first | rfl | exact ivx (by omega) | (simp; done)) (wka (wka (wka (wka (wka (wka (wka (wka (wka (wka (wka (wka (wka (wka (wka wk0))))))))))))))))))))))) rfl (E1 := []) (k := N + 0) (by simp only [List.length_cons, List.length_nil, (hx2_len hn)]) (by omega) (by first | rfl | (simp only [AV.lt, AV.ltL, Ent.lt, List.all_cons, List.all_nil, Bool.and_true, Bool.and_self, decide_true, chg_lt, u8_lt, loc_lt, in_lt, ltL_app]; done) | (simp [AV.lt, AV.ltL, Ent.lt, chg_lt, u8_lt, loc_lt, in_lt, ltL_app, *]; done) | (simp [AV.lt, AV.ltL, Ent.lt, chg_lt, u8_lt, loc_lt, in_lt, ltL_app, *]; omega)) (ltw (by omega) (hx2_lt hlt (by simp [Ent.lt, AV.lt, AV.ltL, *]) (by simp [Ent.lt, AV.lt, AV.ltL, u8_lt, ltL_app]))) rfl) (ALe.same (WkL.refl _) (by simp only [rows_app, rows_one, List.length_append]; rfl)))
  · skip
    refine w_exit ?_
    refine x_thn ?_
    refine x_thn ?_
    refine x_blk ?_
    refine w_end (rs0) ?_
    have e0 : k - i = 0 := by omega
    rw [e0, le, List.append_nil] at hk3
    refine ⟨_, [], by simp only [List.append_nil]; rfl, hx2_len hn, hx2_lt hlt (by simp [Ent.lt, AV.lt, AV.ltL, *]) (by simp [Ent.lt, u8_lt]), rfl, rfl, ?_⟩
    rw [hk3, show i = k by omega]
theorem index_a {K : List Loc} {l : Loc} {ik v ty : Nat} {h : AH} (he : h[ik]? = some (.mk v ty 3 (rows locC K))) :
    ACalls Try.prog 84 [.own ik v K.length, .agg [iv l.1, iv l.2.1, sv l.2.2]] h fun x h' => h' = h ∧ x = .ret (iv (if idx K l < K.length then (idx K l : Int) else -1)) := by
  refine i84 ?_
  intro N hn hlt hlA hbd
  try simp only [AV.bdL, AV.bd, and_true, true_and] at hbd
  refine w_seq ?_
  refine w_reg ?_
  refine s_eff rfl rfl (e_box (cvl lk1 rfl) rfl (hl0 hn) ha0) pt3 ?_
  refine s_val rfl (v_mv lki) pt4 ?_
  refine s_nil ?_
  refine n_seq ?_
  refine w_seq ?_
  refine w_seq ?_
  refine w_reg ?_
  refine s_val rfl (v_mv lk0) pt6 ?_
  refine s_val rfl (v_lenO lk6) pt7 ?_
  refine s_val rfl (v_mv lki) pt8 ?_
  refine s_nil ?_
  refine n_seq ?_
  refine w_block ?_
  refine w_loop (ι := Nat) (fun (k : Nat) => [(8, iv (k : Int)), (4, .any), (5, .any), (9, .any), (10, .any), (11, .any), (12, .any), (13, .any), (14, .any), (15, .any), (16, .any), (17, .any), (18, .any)]) (fun (k : Nat) => []) (fun (k : Nat) => k ≤ K.length ∧ k ≤ idx K l) (fun (k : Nat) => K.length - k) (0) (by exact ⟨by omega, by omega⟩) (by try simp only [setsT, setsE, List.set_cons_zero, List.set_cons_succ]; exact ALe.same (wk1 rfl (wk1 rfl (wk1 rfl (wk1 rfl (wka (wka (wk1 rfl (wk1 rfl (wk1 (by first | rfl | exact ivx (by omega) | (simp; done)) (wka (wka (wka (wka (wka (wka (wka (wka (wka (wka wk0))))))))))))))))))) rfl) ?_
  rintro k hi1
  try simp only [setsT, setsE, List.set_cons_zero, List.set_cons_succ]
  obtain ⟨hk1, hk2⟩ := hi1
  refine w_seq ?_
  refine w_reg ?_
  refine s_val rfl (v_lss lk8 lk7) pt9 ?_
  refine s_nil ?_
  refine n_seq ?_
  refine w_seq ?_
  first | refine w_cond lk9 (fun hc1 => ?_) (fun hc1 => ?_) | refine w_condB lk9 (fun hc1 => ?_) (fun hc1 => ?_)
  · skip
    have hk : k < K.length := by omega
    refine w_skip ?_
    refine n_seq ?_
    refine w_seq ?_
    refine w_block ?_
    refine w_seq ?_
    refine w_reg ?_
    refine s_val rfl (v_mv lk8) pt10 ?_
    refine s_val rfl (v_mv lk10) pt5 ?_
    refine s_nil ?_
    refine n_seq ?_
    refine w_seq ?_
    refine w_drwE ?_
    refine d_val rfl (v_loadpA lk3 (hga hn rfl) WEncA_tk0_3 rfl) pt11 ?_
    refine d_val rfl (v_mv lk0) pt12 ?_
    refine d_val rfl (v_mv lk5) pt13 ?_
    refine d_val rfl (v_iaOR lk12 lk13 (hx_app he) loc_len1 (Nat.le_of_ble_eq_true rfl) (by first | rfl | omega) (by omega) (by first | rfl | (simp; done) | omega)) pt14 ?_
    refine d_val rfl (v_ldOR lk14 (hx_app he) loc_len1 (by omega) rfl) pt15 ?_
    refine d_val rfl (v_eqsT lk11 lk15 WEncA_eq_iis) pt16 ?_
    refine d_nil ?_
    refine e_nil ?_
    refine s_nil ?_
    refine n_seq ?_
    first | refine w_cond lk16 (fun hc2 => ?_) (fun hc2 => ?_) | refine w_condB lk16 (fun hc2 => ?_) (fun hc2 => ?_)
    · skip
      have hkl : K[k] = l := by obtain ⟨x1, x2, x3⟩ := hc2; exact (Prod.ext x1 (Prod.ext x2 x3)).symm
      refine w_seq ?_
      refine w_reg ?_
      refine s_val rfl (v_mv lk5) pt17 ?_
      refine s_val rfl (v_mv lk17) pt4 ?_
      refine s_nil ?_
      refine n_seq ?_
      refine w_rets ?_
      refine r_blk ?_
      refine r_thn ?_
      refine r_thn ?_
      refine r_blk ?_
      refine r_thn ?_
      refine w_ret (rs1 (rr_t gt4)) ?_
      refine rt (by first | rfl | (simp only [AV.lt, AV.ltL, Ent.lt, List.all_cons, List.all_nil, Bool.and_true, Bool.and_self, decide_true, chg_lt, u8_lt, loc_lt, in_lt, ltL_app]; done) | (simp [AV.lt, AV.ltL, Ent.lt, chg_lt, u8_lt, loc_lt, in_lt, ltL_app, *]; done) | (simp [AV.lt, AV.ltL, Ent.lt, chg_lt, u8_lt, loc_lt, in_lt, ltL_app, *]; omega)) ?_
      refine ivx ?_; have e := idx_no hk hkl; have e2 : idx K l = k := by omega
      rw [e2, if_pos hk]
    · skip
      have hkl : K[k] ≠ l := fun e => hc2 (by rw [← e]; exact ⟨rfl, rfl, rfl⟩)
      refine w_skip ?_
      refine n_blk ?_
      refine n_seq ?_
      refine w_reg ?_
      refine s_val rfl (v_add lk8 lki (by omega) (by omega)) pt18 ?_
      refine s_val rfl (v_mv lk18) pt8 ?_
      refine s_nil ?_
      refine n_thn ?_
      refine LoopTo.mk (k + 1) (by omega) (by (try dsimp only); exact ⟨by omega, idx_step hk hk2 hkl⟩) (by (try dsimp only); (try simp only [setsT, setsE, List.set_cons_zero, List.set_cons_succ]); exact ALe.same (wk1 rfl (wk1 rfl (wk1 rfl (wk1 rfl (wka (wka (wk1 rfl (wk1 rfl (wk1 (by first | rfl | exact ivx (by omega) | (simp; done)) (wka (wka (wka (wka (wka (wka (wka (wka (wka (wka wk0))))))))))))))))))) rfl)
  · skip
    refine w_exit ?_
    refine x_thn ?_
    refine x_thn ?_
    refine x_blk ?_
    refine n_seq ?_
    refine w_seq ?_
    refine w_reg ?_
    refine s_val rfl (v_mv lki) pt4 ?_
    refine s_nil ?_
    refine n_seq ?_
    refine w_rets ?_
    refine w_ret (rs1 (rr_t gt4)) ?_
    refine rt (by first | rfl | (simp only [AV.lt, AV.ltL, Ent.lt, List.all_cons, List.all_nil, Bool.and_true, Bool.and_self, decide_true, chg_lt, u8_lt, loc_lt, in_lt, ltL_app]; done) | (simp [AV.lt, AV.ltL, Ent.lt, chg_lt, u8_lt, loc_lt, in_lt, ltL_app, *]; done) | (simp [AV.lt, AV.ltL, Ent.lt, chg_lt, u8_lt, loc_lt, in_lt, ltL_app, *]; omega)) ?_
    refine ivx ?_; rw [if_neg (by omega)]
def bump (K : List Loc) (l : Loc) (v : Nat) : Nat := if idx K l < K.length then v else v + 1
theorem kind_a {K : List Loc} {l : Loc} {B : AV} {id ik v0 v ty : Nat} {h : AH} (h1 : h[id]? = some (.mk v0 ty 2 [B, .own ik v K.length])) (h2 : h[ik]? = some (.mk v 23 3 (rows locC K))) (hne : id ≠ ik) (hL : K.length ≤ 1000000000) (hB : B.lt h.length = true) (hBl : leaf B = true) :
    ACalls Try.prog 67 [.ptr id v0 0, .agg [iv l.1, iv l.2.1, sv l.2.2]] h fun r h' => r = .ret (iv (idx K l : Int)) ∧ h' = (h.set id (.mk v0 ty 2 [B, .own ik (bump K l v) (addK K l).length])).set ik (.mk (bump K l v) 23 3 (rows locC (addK K l))) := by
  have hid : id < h.length := (List.getElem?_eq_some_iff.1 h1).1
  have hik : ik < h.length := (List.getElem?_eq_some_iff.1 h2).1
  refine j67 ?_
  intro N hn hlt hlA hbd
  try simp only [AV.bdL, AV.bd, and_true, true_and] at hbd
  rw [hn] at hB
  have hik' : ik < N := by omega
  refine aw_heap (h1 := (h.set id (.mk v0 ty 2 [B, .own ik v K.length])).set ik (.mk v 23 3 (rows locC K)) ++ []) (by rw [hx2_self h1 h2]) ?_
  refine w_seq ?_
  refine w_reg ?_
  refine s_eff rfl rfl (e_box (cvl lk1 rfl) rfl (hl0 (hx2_len hn)) ha0) pt3 ?_
  refine s_val rfl (v_mv lki) pt4 ?_
  refine s_nil ?_
  refine n_seq ?_
  refine w_seq ?_
  refine w_drwE ?_
  refine d_val rfl (v_mv lk0) pt6 ?_
  refine d_val rfl (v_nckp lk6) pt7 ?_
  refine d_val rfl (v_fap0 lk7) pt8 ?_
  refine d_val rfl (v_loadp lk8 (hx2_at1 hne hid) gt1) pt9 ?_
  refine d_val rfl (v_loadpA lk3 (hga (hx2_len hn) rfl) WEncA_tk0_3 rfl) pt10 ?_
  refine d_callp (mp1 lk9 (mp1 lk10 mp0)) (fun hE hX => index_a (K := K) (l := l) (hX ik _ (hx2_at2 hik))) pt11 ?_
  refine d_val rfl (v_mv lk11) pt5 ?_
  refine d_nil ?_
  refine e_nil ?_
  refine s_nil ?_
  refine n_seq ?_
  refine w_seq ?_
  refine w_seq ?_
  refine w_reg ?_
  refine s_val rfl (v_mv lk5) pt12 ?_
  refine s_val rfl (v_lss lk12 lki) pt13 ?_
  refine s_nil ?_
  refine n_seq ?_
  first | refine w_cond lk13 (fun hc1 => ?_) (fun hc1 => ?_) | refine w_condB lk13 (fun hc1 => ?_) (fun hc1 => ?_)
  · skip
    have hno : ¬ idx K l < K.length := by intro e; rw [if_pos e] at hc1; omega
    have ha : addK K l = K ++ [l] := if_neg hno
    have hb : bump K l v = v + 1 := if_neg hno
    have hi : idx K l = K.length := by have := idx_le K l; omega
    refine w_seq ?_
    refine w_reg ?_
    refine s_val rfl (v_mv lk0) pt14 ?_
    refine s_val rfl (v_nckp lk14) pt15 ?_
    refine s_val rfl (v_fap0 lk15) pt16 ?_
    refine s_val rfl (v_loadp lk16 (hx2_at1 hne hid) gt1) pt17 ?_
    refine s_val rfl (v_lenO lk17) pt18 ?_
    refine s_val rfl (v_mv lk18) pt5 ?_
    refine s_nil ?_
    refine n_seq ?_
    refine w_drwE ?_
    refine d_val rfl (v_mv lk0) pt19 ?_
    refine d_val rfl (v_mv lk0) pt20 ?_
    refine d_val rfl (v_nckp lk20) pt21 ?_
    refine d_val rfl (v_fap0 lk21) pt22 ?_
    refine d_val rfl (v_loadp lk22 (hx2_at1 hne hid) gt1) pt23 ?_
    refine d_val rfl (v_loadpA lk3 (hga (hx2_len hn) rfl) WEncA_tk0_3 rfl) pt24 ?_
    refine d_eff rfl rfl (hlk (hx2_len hn) rfl) (l_lit (WEncA_kind_24 (cvl lk24 rfl) rfl)) pt25 WEncA_lap0 ?_
    refine d_nil ?_
    refine e_ent WEncA_lj1_1 ?_
    refine s_eff rfl rfl (e_app (sc_own lk25 (hga (hx2_len hn) rfl) rfl WEncA_tk_3 (Nat.le_of_ble_eq_true rfl)) lk23 (hx2_at2 hik) (loc_len _) (by omega) rfl (hx2_set2 hik)) pt26 ?_
    refine s_val rfl (v_nckp lk19) pt27 ?_
    refine s_val rfl (v_fap0 lk27) pt28 ?_
    refine s_eff rfl rfl (e_store lk28 (cvl lk26 rfl) (hx2_at1 hne hid) rfl (Nat.le_of_ble_eq_true rfl) rfl WEncA_sc1_1 (hx2_set1 hne hid)) ptn ?_
    refine s_nil ?_
    refine n_seq ?_
    refine w_seq ?_
    refine w_reg ?_
    refine s_val rfl (v_mv lk5) pt29 ?_
    refine s_val rfl (v_mv lk29) pt4 ?_
    refine s_nil ?_
    refine n_seq ?_
    refine w_rets ?_
    refine w_ret (rs1 (rr_t gt4)) ?_
    refine ⟨_, _, rfl, hx2_len hn, hx2_lt hlt (by simp [Ent.lt, AV.lt, AV.ltL, *]) (by simp [Ent.lt, AV.lt, AV.ltL, loc_lt, ltL_app]), rfl, congrArg AE.ret (ivx (by omega)), ?_⟩
    rw [ha, hb, rows_app, rows_one, List.length_append]
    rfl
  · skip
    have hyes : idx K l < K.length := Decidable.byContradiction (fun e => hc1 (by rw [if_neg e]; omega))
    have ha : addK K l = K := if_pos hyes
    have hb : bump K l v = v := if_pos hyes
    refine w_skip ?_
    refine n_seq ?_
    refine w_seq ?_
    refine w_reg ?_
    refine s_val rfl (v_mv lk5) pt29 ?_
    refine s_val rfl (v_mv lk29) pt4 ?_
    refine s_nil ?_
    refine n_seq ?_
    refine w_rets ?_
    refine w_ret (rs1 (rr_t gt4)) ?_
    refine ⟨_, _, rfl, hx2_len hn, hx2_lt hlt (by simp [Ent.lt, AV.lt, AV.ltL, *]) (by simp [Ent.lt, loc_lt]), rfl, congrArg AE.ret (ivx (by rw [if_pos hyes])), ?_⟩
    rw [ha, hb]
end Go.Proofs.Ytmbebimingkfeaa
