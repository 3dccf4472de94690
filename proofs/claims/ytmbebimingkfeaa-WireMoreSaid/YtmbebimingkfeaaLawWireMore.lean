/-
  WireMore answers true, whatever table it is handed, and leaves it as it was. No condition.
-/
import Derived.Test.YtmbebimingkfeaaWBegun
set_option linter.unusedVariables false
set_option linter.unusedSimpArgs false
set_option maxRecDepth 100000
namespace Go.Proofs.Ytmbebimingkfeaa.wireMore
open Go.ChangeShapes Go.WideShapes Go.ChangeAt Go.RowKit Go.Ab Civ
section
theorem LawWireMore_tk0_4 {a0 a1 a2 a3 : AV} {l : List AV} : ((a0 :: a1 :: a2 :: a3 :: l).drop 0).take 4 = [a0, a1, a2, a3] := rfl
theorem LawWireMore_tk_4 {a0 a1 a2 a3 : AV} {l : List AV} : (a0 :: a1 :: a2 :: a3 :: l).take 4 = [a0, a1, a2, a3] := rfl
theorem LawWireMore_sc0_4 {a0 a1 a2 a3 c0 c1 c2 c3 : AV} {l : List AV} : setCells (a0 :: a1 :: a2 :: a3 :: l) 0 [c0, c1, c2, c3] = c0 :: c1 :: c2 :: c3 :: l := rfl
theorem LawWireMore_tk0_3 {a0 a1 a2 : AV} {l : List AV} : ((a0 :: a1 :: a2 :: l).drop 0).take 3 = [a0, a1, a2] := rfl
theorem LawWireMore_WireMore_49 {τ : Operand → AV} {y0 y1 : Operand} {x0_0 x0_1 x0_2 x1_0 : AV} (h0 : cellsV (τ y0) = some [x0_0, x0_1, x0_2]) (l0 : [x0_0, x0_1, x0_2].all leaf = true) (h1 : cellsV (τ y1) = some [x1_0]) (l1 : [x1_0].all leaf = true) : fillAV τ [(0, 3, y0), (3, 1, y1)] [(.v (.int .i64 0)), (.v (.int .i64 0)), (.v (.string ⟨#[]⟩)), (.sl 0 0 true [])] = some [x0_0, x0_1, x0_2, x1_0] := by
  simp only [fillAV, h0, l0, h1, l1]
  rfl
theorem LawWireMore_lap0 { e : Ent} : ([] : AH) ++ [e] = [e] := rfl
theorem LawWireMore_lj2_1 {e0 e1 d0 : Ent} : ([e0, e1] : AH) ++ [d0] = [e0, e1, d0] := rfl
theorem LawWireMore_tk1_3 {a0 a1 a2 a3 : AV} {l : List AV} : ((a0 :: a1 :: a2 :: a3 :: l).drop 1).take 3 = [a1, a2, a3] := rfl
theorem LawWireMore_eq_iis {a0 b0 : Int} {a1 b1 : Int} {a2 b2 : ByteArray} : eqCells [.int, .int, .str] [iv a0, iv a1, sv a2] [iv b0, iv b1, sv b2] = some (decide (a0 = b0 ∧ a1 = b1 ∧ a2 = b2)) := by
  simp only [eqCells, eqLeaf, if_true, bytes_beq, Option.some.injEq]
  simp only [Bool.decide_and, Bool.and_true]
  try (congr 1 <;> simp)
  try rfl
theorem LawWireMore_tk_3 {a0 a1 a2 : AV} {l : List AV} : (a0 :: a1 :: a2 :: l).take 3 = [a0, a1, a2] := rfl
end
/-- datelinelaw.WireMore -/
def c6 : AC := (.seq (.reg [⟨(some 1), none, (.box 26 4 (.tmp 0))⟩, ⟨(some 2), none, (.mv (.const (.bool false)))⟩]) (.seq (.seq (.reg [⟨(some 12), none, (.call (.func 20) [])⟩, ⟨(some 13), none, (.un .not (.tmp 12))⟩]) (.cond (.tmp 13) (.seq (.reg [⟨(some 2), none, (.mv (.const (.bool false)))⟩]) .ret) .skip)) (.seq (.reg [⟨(some 15), none, (.load true 4 (.tmp 1))⟩, ⟨(some 16), none, (.call (.func 21) [(.tmp 15)])⟩, ⟨(some 14), none, (.mv (.tmp 16))⟩, ⟨(some 17), none, (.ext (.tmp 14) 0)⟩, ⟨(some 18), none, (.ext (.tmp 14) 1)⟩, ⟨(some 3), none, (.mv (.tmp 17))⟩, ⟨(some 4), none, (.mv (.tmp 18))⟩]) (.seq (.seq (.reg [⟨(some 19), none, (.mv (.tmp 4))⟩, ⟨(some 20), none, (.bin .neq (.tmp 19) (.const (.int .i64 0)))⟩]) (.cond (.tmp 20) (.seq (.reg [⟨(some 21), none, (.mv (.tmp 3))⟩, ⟨(some 22), none, (.bin .eql (.tmp 21) (.const (.string ⟨#[]⟩)))⟩, ⟨(some 2), none, (.mv (.tmp 22))⟩]) .ret) .skip)) (.seq (.seq (.reg [⟨(some 23), none, (.fa 3 (.tmp 1))⟩, ⟨(some 24), none, (.load false 1 (.tmp 23))⟩, ⟨(some 25), none, (.len false (.tmp 24))⟩, ⟨(some 26), none, (.bin .eql (.tmp 25) (.const (.int .i64 0)))⟩]) (.cond (.tmp 26) (.seq (.reg [⟨(some 27), none, (.mv (.tmp 3))⟩, ⟨(some 28), none, (.len true (.tmp 27))⟩, ⟨(some 29), none, (.fa 0 (.tmp 1))⟩, ⟨(some 30), none, (.fa 2 (.tmp 29))⟩, ⟨(some 31), none, (.load false 1 (.tmp 30))⟩, ⟨(some 32), none, (.len true (.tmp 31))⟩, ⟨(some 33), none, (.bin .add (.const (.int .i64 12)) (.tmp 32))⟩, ⟨(some 34), none, (.bin .eql (.tmp 28) (.tmp 33))⟩, ⟨(some 2), none, (.mv (.tmp 34))⟩]) .ret) .skip)) (.seq (.reg [⟨(some 35), none, (.fa 3 (.tmp 1))⟩, ⟨(some 36), none, (.load false 1 (.tmp 35))⟩, ⟨(some 37), none, (.len false (.tmp 36))⟩, ⟨(some 38), none, (.bin .sub (.tmp 37) (.const (.int .i64 1)))⟩, ⟨(some 5), none, (.mv (.tmp 38))⟩]) (.seq (.reg [⟨(some 39), none, (.fa 3 (.tmp 1))⟩, ⟨(some 40), none, (.load false 1 (.tmp 39))⟩, ⟨(some 41), none, (.mv (.tmp 5))⟩, ⟨(some 42), none, (.ia 4 (.tmp 40) (.tmp 41))⟩, ⟨(some 43), none, (.load true 4 (.tmp 42))⟩, ⟨(some 6), none, (.new 46 4 [(.v (.int .i64 0)), (.v (.int .i64 0)), (.v (.int .i64 0)), (.v (.string ⟨#[]⟩))])⟩, ⟨none, none, (.store 4 (.tmp 6) (.tmp 43))⟩]) (.seq (.drw [⟨(some 44), none, (.fa 0 (.tmp 1))⟩, ⟨(some 45), none, (.load true 3 (.tmp 44))⟩, ⟨(some 46), none, (.fa 3 (.tmp 1))⟩, ⟨(some 47), none, (.load false 1 (.tmp 46))⟩, ⟨(some 48), none, (.mv (.tmp 5))⟩, ⟨(some 49), none, (.slc 4 (.tmp 47) none (some (.tmp 48)) none)⟩, ⟨(some 50), none, (.build [(.v (.int .i64 0)), (.v (.int .i64 0)), (.v (.string ⟨#[]⟩)), (.sl 0 0 true [])] [(0, (3, (.tmp 45))), (3, (1, (.tmp 49)))])⟩, ⟨(some 7), none, (.new 26 4 [(.v (.int .i64 0)), (.v (.int .i64 0)), (.v (.string ⟨#[]⟩)), (.sl 0 0 true [])])⟩] [false] [⟨none, none, (.store 4 (.tmp 7) (.tmp 50))⟩]) (.seq (.reg [⟨(some 52), none, (.load true 4 (.tmp 7))⟩, ⟨(some 53), none, (.call (.func 21) [(.tmp 52)])⟩, ⟨(some 51), none, (.mv (.tmp 53))⟩, ⟨(some 54), none, (.ext (.tmp 51) 0)⟩, ⟨(some 55), none, (.ext (.tmp 51) 1)⟩, ⟨(some 8), none, (.mv (.tmp 54))⟩, ⟨(some 4), none, (.mv (.tmp 55))⟩]) (.seq (.reg [⟨(some 56), none, (.fa 0 (.tmp 7))⟩, ⟨(some 57), none, (.load true 3 (.tmp 56))⟩, ⟨(some 58), none, (.fa 1 (.tmp 6))⟩, ⟨(some 59), none, (.load true 3 (.tmp 58))⟩, ⟨(some 60), none, (.eqs true [.int, .int, .str] (.tmp 57) (.tmp 59))⟩, ⟨(some 9), none, (.mv (.tmp 60))⟩]) (.seq (.seq (.reg [⟨(some 10), none, (.mv (.const (.int .i64 0)))⟩]) (.block 0 (.loop (.seq (.seq (.reg [⟨(some 61), none, (.mv (.tmp 10))⟩, ⟨(some 62), none, (.mv (.tmp 5))⟩, ⟨(some 63), none, (.bin .lss (.tmp 61) (.tmp 62))⟩]) (.cond (.tmp 63) .skip (.exit 0))) (.seq (.block 1 (.drw [⟨(some 66), none, (.mv (.tmp 9))⟩, ⟨(some 67), none, (.mv (.tmp 66))⟩, ⟨(some 68), (some (67, true)), (.fa 3 (.tmp 7))⟩, ⟨(some 69), (some (67, true)), (.load false 1 (.tmp 68))⟩, ⟨(some 70), (some (67, true)), (.mv (.tmp 10))⟩, ⟨(some 71), (some (67, true)), (.ia 4 (.tmp 69) (.tmp 70))⟩, ⟨(some 72), (some (67, true)), (.fa 1 (.tmp 71))⟩, ⟨(some 73), (some (67, true)), (.load true 3 (.tmp 72))⟩, ⟨(some 74), (some (67, true)), (.fa 1 (.tmp 6))⟩, ⟨(some 75), (some (67, true)), (.load true 3 (.tmp 74))⟩, ⟨(some 76), (some (67, true)), (.eqs true [.int, .int, .str] (.tmp 73) (.tmp 75))⟩, ⟨(some 77), none, (.pick (.tmp 67) (.tmp 76) (.const (.bool false)))⟩, ⟨(some 9), none, (.mv (.tmp 77))⟩] [] [])) (.reg [⟨(some 64), none, (.mv (.tmp 10))⟩, ⟨(some 65), none, (.bin .add (.tmp 64) (.const (.int .i64 1)))⟩, ⟨(some 10), none, (.mv (.tmp 65))⟩])))))) (.seq (.reg [⟨(some 11), none, (.mv (.const (.int .i64 7)))⟩]) (.seq (.seq (.reg [⟨(some 78), none, (.mv (.tmp 9))⟩]) (.cond (.tmp 78) (.reg [⟨(some 79), none, (.mv (.tmp 11))⟩, ⟨(some 80), none, (.fa 1 (.tmp 6))⟩, ⟨(some 81), none, (.fa 2 (.tmp 80))⟩, ⟨(some 82), none, (.load false 1 (.tmp 81))⟩, ⟨(some 83), none, (.len true (.tmp 82))⟩, ⟨(some 84), none, (.bin .add (.const (.int .i64 6)) (.tmp 83))⟩, ⟨(some 85), none, (.bin .add (.tmp 79) (.tmp 84))⟩, ⟨(some 11), none, (.mv (.tmp 85))⟩]) .skip)) (.seq (.reg [⟨(some 86), none, (.mv (.tmp 4))⟩, ⟨(some 87), none, (.bin .eql (.tmp 86) (.const (.int .i64 0)))⟩, ⟨(some 88), none, (.mv (.tmp 87))⟩, ⟨(some 89), (some (88, true)), (.mv (.tmp 3))⟩, ⟨(some 90), (some (88, true)), (.len true (.tmp 89))⟩, ⟨(some 91), (some (88, true)), (.mv (.tmp 8))⟩, ⟨(some 92), (some (88, true)), (.len true (.tmp 91))⟩, ⟨(some 93), (some (88, true)), (.mv (.tmp 11))⟩, ⟨(some 94), (some (88, true)), (.bin .add (.tmp 92) (.tmp 93))⟩, ⟨(some 95), (some (88, true)), (.bin .eql (.tmp 90) (.tmp 94))⟩, ⟨(some 96), none, (.pick (.tmp 88) (.tmp 95) (.const (.bool false)))⟩, ⟨(some 2), none, (.mv (.tmp 96))⟩]) .ret))))))))))))))
theorem k6 : compF Try.prog 6 = some ⟨c6, [(.tmp 2)], 97⟩ := by kernel_rfl
theorem i6 {a0 : AV} {h : AH} {R : AE → Prop} (hw : ∀ n, h.length = n → (∀ e ∈ h, e.lt n = true) → AV.ltL n [a0] = true → AV.bdL [a0] → aw Try.prog n c6 (retA [(.tmp 2)] fun x h' => ∃ z, h' = h ++ z ∧ x.lt n = true ∧ R x) [a0, .any, .any, .any, .any, .any, .any, .any, .any, .any, .any, .any, .any, .any, .any, .any, .any, .any, .any, .any, .any, .any, .any, .any, .any, .any, .any, .any, .any, .any, .any, .any, .any, .any, .any, .any, .any, .any, .any, .any, .any, .any, .any, .any, .any, .any, .any, .any, .any, .any, .any, .any, .any, .any, .any, .any, .any, .any, .any, .any, .any, .any, .any, .any, .any, .any, .any, .any, .any, .any, .any, .any, .any, .any, .any, .any, .any, .any, .any, .any, .any, .any, .any, .any, .any, .any, .any, .any, .any, .any, .any, .any, .any, .any, .any, .any, .any] (h ++ [])) : ACalls Try.prog 6 [a0] h fun x h' => h' = h ∧ R x := ACalls.into k6 rfl hw
theorem w6 {a0 : AV} {h : AH} {res : AV} (hw : ∀ n, h.length = n → (∀ e ∈ h, e.lt n = true) → AV.ltL n [a0] = true → AV.bdL [a0] → aw Try.prog n c6 (retA [(.tmp 2)] fun x h' => ∃ z, h' = h ++ z ∧ x.lt n = true ∧ ∃ c, x = .ret c ∧ Wk c res) [a0, .any, .any, .any, .any, .any, .any, .any, .any, .any, .any, .any, .any, .any, .any, .any, .any, .any, .any, .any, .any, .any, .any, .any, .any, .any, .any, .any, .any, .any, .any, .any, .any, .any, .any, .any, .any, .any, .any, .any, .any, .any, .any, .any, .any, .any, .any, .any, .any, .any, .any, .any, .any, .any, .any, .any, .any, .any, .any, .any, .any, .any, .any, .any, .any, .any, .any, .any, .any, .any, .any, .any, .any, .any, .any, .any, .any, .any, .any, .any, .any, .any, .any, .any, .any, .any, .any, .any, .any, .any, .any, .any, .any, .any, .any, .any, .any] (h ++ [])) : ACalls Try.prog 6 [a0] h fun x h' => h' = h ∧ x = .ret res := ACalls.weak (ACalls.into k6 rfl hw)
theorem n6 {a0 : AV} {h : AH} {R : AE → AH → Prop} (hw : ∀ n, h.length = n → (∀ e ∈ h, e.lt n = true) → AV.ltL n [a0] = true → AV.bdL [a0] → aw Try.prog n c6 (retA [(.tmp 2)] R) [a0, .any, .any, .any, .any, .any, .any, .any, .any, .any, .any, .any, .any, .any, .any, .any, .any, .any, .any, .any, .any, .any, .any, .any, .any, .any, .any, .any, .any, .any, .any, .any, .any, .any, .any, .any, .any, .any, .any, .any, .any, .any, .any, .any, .any, .any, .any, .any, .any, .any, .any, .any, .any, .any, .any, .any, .any, .any, .any, .any, .any, .any, .any, .any, .any, .any, .any, .any, .any, .any, .any, .any, .any, .any, .any, .any, .any, .any, .any, .any, .any, .any, .any, .any, .any, .any, .any, .any, .any, .any, .any, .any, .any, .any, .any, .any, .any] (h ++ [])) : ACalls Try.prog 6 [a0] h R := ACalls.intoN k6 rfl hw
theorem j6 {a0 : AV} {h : AH} {R : AE → AH → Prop} (hw : ∀ n, h.length = n → (∀ e ∈ h, e.lt n = true) → AV.ltL n [a0] = true → AV.bdL [a0] → aw Try.prog n c6 (retA [(.tmp 2)] fun x h' => ∃ y z, h' = y ++ z ∧ y.length = n ∧ (∀ e ∈ y, e.lt n = true) ∧ x.lt n = true ∧ R x y) [a0, .any, .any, .any, .any, .any, .any, .any, .any, .any, .any, .any, .any, .any, .any, .any, .any, .any, .any, .any, .any, .any, .any, .any, .any, .any, .any, .any, .any, .any, .any, .any, .any, .any, .any, .any, .any, .any, .any, .any, .any, .any, .any, .any, .any, .any, .any, .any, .any, .any, .any, .any, .any, .any, .any, .any, .any, .any, .any, .any, .any, .any, .any, .any, .any, .any, .any, .any, .any, .any, .any, .any, .any, .any, .any, .any, .any, .any, .any, .any, .any, .any, .any, .any, .any, .any, .any, .any, .any, .any, .any, .any, .any, .any, .any, .any, .any] (h ++ [])) : ACalls Try.prog 6 [a0] h R := ACalls.intoG k6 rfl hw
theorem enc_len (t : Tab) : (enc t).length = 6 + ((kinds t).flatMap encL).length + 7 * t.2.length := by
  have hIl : (kindI t).length = t.2.length := isOf_len _ _
  have h := zip_len (l := t.2) (I := kindI t) (k := t.2.length) (Nat.le_refl _) hIl
  rw [List.take_of_length_le (by rw [List.length_zip]; omega)] at h
  simp only [enc, List.length_append, le_len, h]
  omega
theorem chk_pre : ∀ {a : Int} {l : Loc} {cs ds : List Chg}, chk a l (cs ++ ds) = 0 → chk a l cs = 0
  | a, l, [], ds, h => rfl
  | a, l, c :: cs, ds, h => by
    rw [List.cons_append, chk] at h
    rw [chk]
    split at h
    · cases h
    · rename_i h1
      rw [if_neg h1]
      split at h
      · cases h
      · rename_i h2
        rw [if_neg h2]
        split at h
        · rename_i h3; exact absurd h h3
        · rename_i h3
          rw [if_neg h3]
          split at h
          · cases h
          · rename_i h4
            rw [if_neg h4]
            exact chk_pre h
theorem check_pre {t : Tab} (h : checkT t = 0) (n : Nat) : checkT (t.1, t.2.take n) = 0 := by
  obtain ⟨h1, h2, _⟩ := checkT_all h
  unfold checkT at h ⊢
  rw [if_neg (by omega), if_neg (by rw [h2]; simp)] at h
  rw [if_neg (by simp only [List.length_take]; omega), if_neg (by simp only; rw [h2]; simp)]
  exact chk_pre (ds := t.2.drop n) (by rw [List.take_append_drop]; exact h)
theorem ksOf_snoc : ∀ (K : List Loc) (l : List Chg) (c : Chg), ksOf K (l ++ [c]) = addK (ksOf K l) c.2
  | K, [], c => rfl
  | K, d :: l, c => by rw [List.cons_append, ksOf, ksOf_snoc (addK K d.2) l c, ksOf]
theorem addK_mem {K : List Loc} {l x : Loc} : x ∈ addK K l ↔ x ∈ K ∨ x = l := by
  unfold addK
  split
  · rename_i h
    refine ⟨Or.inl, fun e => e.elim id (fun e => ?_)⟩
    subst e
    have := idx_at h
    rw [← this]
    exact List.getElem_mem h
  · simp
theorem ksOf_mem : ∀ {K : List Loc} {l : List Chg} {x : Loc}, x ∈ ksOf K l ↔ x ∈ K ∨ ∃ c ∈ l, c.2 = x
  | K, [], x => by simp [ksOf]
  | K, d :: l, x => by
    rw [ksOf, ksOf_mem, addK_mem]
    simp only [List.mem_cons, exists_eq_or_imp, or_assoc]
    constructor
    · rintro (h | h | h)
      · exact Or.inl h
      · exact Or.inr (Or.inl h.symm)
      · exact Or.inr (Or.inr h)
    · rintro (h | h | h)
      · exact Or.inl h
      · exact Or.inr (Or.inl h.symm)
      · exact Or.inr (Or.inr h)
theorem idx_mem {K : List Loc} {l : Loc} : idx K l < K.length ↔ l ∈ K := by
  constructor
  · intro h
    have := idx_at h
    exact List.mem_iff_getElem.2 ⟨_, h, this⟩
  · intro h
    obtain ⟨i, hi, e⟩ := List.getElem_of_mem h
    have := idx_no hi e
    omega
/-- no kind so far is this one -/
def fr (f l : Loc) (L : List Chg) : Bool := decide (f ≠ l) && L.all (fun d => decide (d.2 ≠ l))
theorem fr_iff {f l : Loc} {L : List Chg} : fr f l L = true ↔ l ∉ ksOf [f] L := by
  rw [ksOf_mem]
  simp only [fr, Bool.and_eq_true, decide_eq_true_eq, List.all_eq_true, List.mem_singleton, not_or, not_exists, not_and]
  exact ⟨fun ⟨a, b⟩ => ⟨fun e => a e.symm, b⟩, fun ⟨a, b⟩ => ⟨fun e => a e.symm, b⟩⟩
theorem fr_nil {f l : Loc} : fr f l [] = decide (f ≠ l) := by simp [fr]
theorem fr_snoc {f l : Loc} {L : List Chg} {d : Chg} : fr f l (L ++ [d]) = (fr f l L && decide (d.2 ≠ l)) := by
  simp [fr, Bool.and_assoc]
theorem more_len {t : Tab} {n : Nat} (hn : t.2.length = n + 1) : (enc t).length = (enc (t.1, t.2.take n)).length + (if fr t.1 t.2[n].2 (t.2.take n) = true then 7 + (6 + t.2[n].2.2.2.size) else 7) := by
  have e : t.2 = t.2.take n ++ [t.2[n]] := by rw [← List.take_succ_eq_append_getElem (by omega), List.take_of_length_le (by omega)]
  have hk : kinds t = addK (kinds (t.1, t.2.take n)) t.2[n].2 := by
    show ksOf [t.1] t.2 = addK (ksOf [t.1] (t.2.take n)) t.2[n].2
    rw [← ksOf_snoc, ← e]
  have hf : fr t.1 t.2[n].2 (t.2.take n) = true ↔ t.2[n].2 ∉ kinds (t.1, t.2.take n) := fr_iff
  have hlt : (t.2.take n).length = n := by rw [List.length_take]; omega
  rw [enc_len, enc_len, hk]
  simp only [hlt]
  generalize kinds (t.1, t.2.take n) = K at hf ⊢
  unfold addK
  by_cases h : t.2[n].2 ∈ K
  · rw [if_neg (fun hh => hf.1 hh h), if_pos (idx_mem.2 h)]
    omega
  · rw [if_pos (hf.2 h), if_neg (fun hh => h (idx_mem.1 hh))]
    rw [List.flatMap_append, List.length_append]
    have := encL_len t.2[n].2
    have hsz : t.2[n].2.2.2.data.toList.length = t.2[n].2.2.2.size := by simp
    simp only [List.flatMap_cons, List.flatMap_nil, List.append_nil]
    omega
theorem none_len {t : Tab} (hn : t.2.length = 0) : (enc t).length = 12 + t.1.2.2.size := by
  have e : t.2 = [] := List.eq_nil_of_length_eq_zero hn
  have := encL_len t.1
  have hsz : t.1.2.2.data.toList.length = t.1.2.2.size := by simp
  rw [enc_len, kinds, e]
  simp only [ksOf, List.flatMap_cons, List.flatMap_nil, List.append_nil, List.length_nil]
  omega
theorem flat_len' {K : List Loc} (hK : ∀ x ∈ K, locE x = 0) : (K.flatMap encL).length ≤ 30 * K.length := by
  induction K with
  | nil => simp
  | cons a L ih =>
    have h1 := (locE_ok (hK a (by simp))).2.2.2.1
    have h2 := ih (fun x hx => hK x (by simp [hx]))
    rw [List.flatMap_cons, List.length_append, encL_len, List.length_cons]
    have : a.2.2.data.toList.length = a.2.2.size := by simp
    omega
theorem enc_bd {t : Tab} (h : checkT t = 0) : (if checkT t = 0 then (⟨(enc t).toArray⟩ : ByteArray) else ⟨#[]⟩).size ≤ 100000 := by
  obtain ⟨k1, k2, k3, _⟩ := enc_facts h
  have := flat_len' k1
  rw [if_pos h, sb_size, enc_len]
  omega
theorem walk {t : Tab} (ht : okT t) : ACalls Try.prog 6 [tabA t] [] fun x h' => h' = [] ∧ x = .ret (bv true) := by
  have hu : okT (t.1, t.2.take (t.2.length - 1)) := ⟨ht.1, fun x hx => ht.2 x (List.mem_of_mem_take hx)⟩
  refine i6 ?_
  intro N hn hlt hlA hbd
  try simp only [AV.bdL, AV.bd, and_true, true_and] at hbd
  refine w_seq ?_
  refine w_reg ?_
  refine s_eff rfl rfl (e_box (cvl lk0 rfl) rfl (hl0 hn) ha0) pt1 ?_
  refine s_val rfl (v_mv lkb) pt2 ?_
  refine s_nil ?_
  refine n_seq ?_
  refine w_seq ?_
  refine w_seq ?_
  refine w_reg ?_
  refine s_callp mp0 (wbegun_a) pt12 ?_
  refine s_val rfl ((by first | exact v_not lk12 | exact v_notB lk12)) pt13 ?_
  refine s_nil ?_
  refine n_seq ?_
  refine w_condKF lk13 (by rfl) ?_
  refine w_skip ?_
  refine n_seq ?_
  refine w_seq ?_
  refine w_reg ?_
  refine s_val rfl (v_loadpA lk1 (hga hn rfl) LawWireMore_tk0_4 rfl) pt15 ?_
  refine s_callp (mp1 lk15 mp0) (encode_a (t := t) ht) pt16 ?_
  refine s_val rfl (v_mv lk16) pt14 ?_
  refine s_val rfl (v_ext lk14 gt0) pt17 ?_
  refine s_val rfl (v_ext lk14 gt1) pt18 ?_
  refine s_val rfl (v_mv lk17) pt3 ?_
  refine s_val rfl (v_mv lk18) pt4 ?_
  refine s_nil ?_
  refine n_seq ?_
  refine w_seq ?_
  refine w_seq ?_
  refine w_reg ?_
  refine s_val rfl (v_mv lk4) pt19 ?_
  refine s_val rfl (v_neq lk19 lki) pt20 ?_
  refine s_nil ?_
  refine n_seq ?_
  first | refine w_cond lk20 (fun hc2 => ?_) (fun hc2 => ?_) | refine w_condB lk20 (fun hc2 => ?_) (fun hc2 => ?_)
  · skip
    have hv : checkT t ≠ 0 := hc2
    refine w_seq ?_
    refine w_reg ?_
    refine s_val rfl (v_mv lk3) pt21 ?_
    refine s_val rfl (v_eqlS lk21 lks) pt22 ?_
    refine s_val rfl (v_mv lk22) pt2 ?_
    refine s_nil ?_
    refine n_seq ?_
    refine w_rets ?_
    refine r_thn ?_
    refine w_ret (rs1 (rr_t gt2)) ?_
    refine rt (by first | rfl | (simp only [AV.lt, AV.ltL, Ent.lt, List.all_cons, List.all_nil, Bool.and_true, Bool.and_self, decide_true, chg_lt, u8_lt, loc_lt, in_lt, ltL_app]; done) | (simp [AV.lt, AV.ltL, Ent.lt, chg_lt, u8_lt, loc_lt, in_lt, ltL_app, *]; done) | (simp [AV.lt, AV.ltL, Ent.lt, chg_lt, u8_lt, loc_lt, in_lt, ltL_app, *]; omega)) ?_
    refine bvx ?_; rw [if_neg hv]; rfl
  · skip
    have hv : checkT t = 0 := Decidable.of_not_not hc2
    have hl := checkT_len hv
    have hm := (checkT_all hv).2
    have hz1 := (locE_ok hm.1).2.2.2.1
    refine w_skip ?_
    refine n_seq ?_
    refine w_seq ?_
    refine w_seq ?_
    refine w_reg ?_
    refine s_val rfl (v_fap0 lk1) pt23 ?_
    refine s_val rfl (v_loadp lk23 (hga hn rfl) gt3) pt24 ?_
    refine s_val rfl (v_lenL lk24) pt25 ?_
    refine s_val rfl (v_eql lk25 lki) pt26 ?_
    refine s_nil ?_
    refine n_seq ?_
    first | refine w_cond lk26 (fun hc3 => ?_) (fun hc3 => ?_) | refine w_condB lk26 (fun hc3 => ?_) (fun hc3 => ?_)
    · skip
      have hn0 : t.2.length = 0 := by omega
      refine w_seq ?_
      refine w_reg ?_
      refine s_val rfl (v_mv lk3) pt27 ?_
      refine s_val rfl (v_lenS lk27) pt28 ?_
      refine s_val rfl (v_fap0 lk1) pt29 ?_
      refine s_val rfl (v_fap0 lk29) pt30 ?_
      refine s_val rfl (v_loadp lk30 (hga hn rfl) gt2) pt31 ?_
      refine s_val rfl (v_lenS lk31) pt32 ?_
      refine s_val rfl (v_add lki lk32 (by omega) (by omega)) pt33 ?_
      refine s_val rfl (v_eql lk28 lk33) pt34 ?_
      refine s_val rfl (v_mv lk34) pt2 ?_
      refine s_nil ?_
      refine n_seq ?_
      refine w_rets ?_
      refine r_thn ?_
      refine w_ret (rs1 (rr_t gt2)) ?_
      refine rt (by first | rfl | (simp only [AV.lt, AV.ltL, Ent.lt, List.all_cons, List.all_nil, Bool.and_true, Bool.and_self, decide_true, chg_lt, u8_lt, loc_lt, in_lt, ltL_app]; done) | (simp [AV.lt, AV.ltL, Ent.lt, chg_lt, u8_lt, loc_lt, in_lt, ltL_app, *]; done) | (simp [AV.lt, AV.ltL, Ent.lt, chg_lt, u8_lt, loc_lt, in_lt, ltL_app, *]; omega)) ?_
      refine bvx ?_; rw [if_pos hv, sb_size, none_len hn0]; exact decide_eq_true (by omega)
    · skip
      obtain ⟨n, hn1⟩ : ∃ n, t.2.length = n + 1 := ⟨t.2.length - 1, by omega⟩
      have hvu := check_pre hv (t.2.length - 1)
      have hbu := enc_bd hvu
      have hz2 := (locE_ok (hm.2 t.2[t.2.length - 1] (List.getElem_mem (by omega))).2).2.2.2.1
      have hml := more_len (t := t) (n := t.2.length - 1) (by omega)
      refine w_skip ?_
      refine n_seq ?_
      refine w_seq ?_
      refine w_reg ?_
      refine s_val rfl (v_fap0 lk1) pt35 ?_
      refine s_val rfl (v_loadp lk35 (hga hn rfl) gt3) pt36 ?_
      refine s_val rfl (v_lenL lk36) pt37 ?_
      refine s_val rfl (v_sub lk37 lki (by omega) (by omega)) pt38 ?_
      refine s_val rfl (v_mv lk38) pt5 ?_
      refine s_nil ?_
      refine n_seq ?_
      refine w_seq ?_
      refine w_reg ?_
      refine s_val rfl (v_fap0 lk1) pt39 ?_
      refine s_val rfl (v_loadp lk39 (hga hn rfl) gt3) pt40 ?_
      refine s_val rfl (v_mv lk5) pt41 ?_
      refine s_val rfl (v_iaR (k := t.2.length - 1) lk40 lk41 chg_len1 (Nat.le_of_ble_eq_true rfl) (by first | rfl | omega) (by omega) (by first | rfl | omega) rfl) pt42 ?_
      refine s_val rfl (v_loadrA lk42 LawWireMore_tk_4 rfl) pt43 ?_
      refine s_eff rfl rfl (e_new (hl1 hn) ha1) pt6 ?_
      refine s_eff rfl rfl (e_store lk6 (cvl lk43 rfl) (hga hn rfl) rfl (Nat.le_of_ble_eq_true rfl) rfl LawWireMore_sc0_4 (hs1 hn)) ptn ?_
      refine s_nil ?_
      refine n_seq ?_
      refine w_seq ?_
      refine w_drwE ?_
      refine d_val rfl (v_fap0 lk1) pt44 ?_
      refine d_val rfl (v_loadpA lk44 (hga hn rfl) LawWireMore_tk0_3 rfl) pt45 ?_
      refine d_val rfl (v_fap0 lk1) pt46 ?_
      refine d_val rfl (v_loadp lk46 (hga hn rfl) gt3) pt47 ?_
      refine d_val rfl (v_mv lk5) pt48 ?_
      refine d_val rfl (v_hi (k := t.2.length - 1) lk47 lk48 chg_len1 (by first | rfl | omega) (by omega) (by first | rfl | omega)) pt49 ?_
      refine d_val rfl (v_build (LawWireMore_WireMore_49 (cvl lk45 rfl) rfl (cvl lk49 rfl) rfl)) pt50 ?_
      refine d_eff rfl rfl (hlk hn rfl) (l_new) pt7 LawWireMore_lap0 ?_
      refine d_nil ?_
      refine e_ent LawWireMore_lj2_1 ?_
      refine s_eff rfl rfl (e_store lk7 (cvl lk50 rfl) (hga hn rfl) rfl (Nat.le_of_ble_eq_true rfl) rfl LawWireMore_sc0_4 (hs2 hn)) ptn ?_
      refine s_nil ?_
      refine n_seq ?_
      refine w_seq ?_
      refine w_reg ?_
      refine s_val rfl (v_loadpA lk7 (hga hn rfl) LawWireMore_tk0_4 rfl) pt52 ?_
      refine s_callp (mp1 lk52 mp0) (encode_a (t := (t.1, t.2.take (t.2.length - 1))) hu) pt53 ?_
      refine s_val rfl (v_mv lk53) pt51 ?_
      refine s_val rfl (v_ext lk51 gt0) pt54 ?_
      refine s_val rfl (v_ext lk51 gt1) pt55 ?_
      refine s_val rfl (v_mv lk54) pt8 ?_
      refine s_val rfl (v_mv lk55) pt4 ?_
      refine s_nil ?_
      refine n_seq ?_
      refine w_seq ?_
      refine w_reg ?_
      refine s_val rfl (v_fap0 lk7) pt56 ?_
      refine s_val rfl (v_loadpA lk56 (hga hn rfl) LawWireMore_tk0_3 rfl) pt57 ?_
      refine s_val rfl (v_fap0 lk6) pt58 ?_
      refine s_val rfl (v_loadpA lk58 (hga hn rfl) LawWireMore_tk1_3 rfl) pt59 ?_
      refine s_val rfl (v_eqsN lk57 lk59 LawWireMore_eq_iis) pt60 ?_
      refine s_val rfl (v_mv lk60) pt9 ?_
      refine s_nil ?_
      refine n_seq ?_
      refine w_seq ?_
      refine w_seq ?_
      refine w_reg ?_
      refine s_val rfl (v_mv lki) pt10 ?_
      refine s_nil ?_
      refine n_seq ?_
      refine w_block ?_
      refine w_loop (ι := Nat) (fun (i : Nat) => [(9, bv (fr t.1 (t.2[t.2.length - 1]'(by omega)).2 (t.2.take i))), (10, iv (i : Int)), (61, .any), (62, .any), (63, .any), (64, .any), (65, .any), (66, .any), (67, .any), (68, .any), (69, .any), (70, .any), (71, .any), (72, .any), (73, .any), (74, .any), (75, .any), (76, .any), (77, .any)]) (fun (i : Nat) => []) (fun (i : Nat) => i ≤ t.2.length - 1) (fun (i : Nat) => t.2.length - 1 - i) (0) (by exact Nat.zero_le _) (by try simp only [setsT, setsE, List.set_cons_zero, List.set_cons_succ]; exact ALe.same (wk1 rfl (wk1 rfl (wk1 rfl (wk1 rfl (wk1 rfl (wk1 rfl (wk1 rfl (wk1 rfl (wk1 rfl (wk1 (by first | rfl | exact ivx (by omega) | (rw [List.take_zero, fr_nil]; simp [Prod.ext_iff]; done)) (wk1 (by first | rfl | exact ivx (by omega) | (rw [List.take_zero, fr_nil]; simp [Prod.ext_iff]; done)) (wk1 rfl (wk1 rfl (wk1 rfl (wk1 rfl (wk1 rfl (wk1 rfl (wk1 rfl (wk1 rfl (wk1 rfl (wk1 rfl (wk1 rfl (wk1 rfl (wk1 rfl (wk1 rfl (wk1 rfl (wk1 rfl (wk1 rfl (wk1 rfl (wk1 rfl (wk1 rfl (wk1 rfl (wk1 rfl (wk1 rfl (wk1 rfl (wk1 rfl (wk1 rfl (wk1 rfl (wk1 rfl (wk1 rfl (wk1 rfl (wk1 rfl (wk1 rfl (wk1 rfl (wk1 rfl (wk1 rfl (wk1 rfl (wk1 rfl (wk1 rfl (wk1 rfl (wk1 rfl (wk1 rfl (wk1 rfl (wk1 rfl (wk1 rfl (wk1 rfl (wk1 rfl (wk1 rfl (wk1 rfl (wk1 rfl (wk1 rfl (wka (wka (wka (wka (wka (wka (wka (wka (wka (wka (wka (wka (wka (wka (wka (wka (wka (wk1 rfl (wk1 rfl (wk1 rfl (wk1 rfl (wk1 rfl (wk1 rfl (wk1 rfl (wk1 rfl (wk1 rfl (wk1 rfl (wk1 rfl (wk1 rfl (wk1 rfl (wk1 rfl (wk1 rfl (wk1 rfl (wk1 rfl (wk1 rfl (wk1 rfl wk0))))))))))))))))))))))))))))))))))))))))))))))))))))))))))))))))))))))))))))))))))))))))))))))))) rfl) ?_
      rintro i hi1
      try simp only [setsT, setsE, List.set_cons_zero, List.set_cons_succ]
      refine w_seq ?_
      refine w_seq ?_
      refine w_reg ?_
      refine s_val rfl (v_mv lk10) pt61 ?_
      refine s_val rfl (v_mv lk5) pt62 ?_
      refine s_val rfl (v_lss lk61 lk62) pt63 ?_
      refine s_nil ?_
      refine n_seq ?_
      first | refine w_cond lk63 (fun hc4 => ?_) (fun hc4 => ?_) | refine w_condB lk63 (fun hc4 => ?_) (fun hc4 => ?_)
      · skip
        have hi : i < t.2.length := by omega
        have hlt' : (t.2.take (t.2.length - 1)).length = t.2.length - 1 := by rw [List.length_take]; omega
        refine w_skip ?_
        refine n_seq ?_
        refine w_seq ?_
        refine w_block ?_
        refine w_drwE ?_
        refine d_val rfl (v_mv lk9) pt66 ?_
        refine d_val rfl (v_mv lk66) pt67 ?_
        first | refine d_splitP gt67 pt67 pt67 (fun hg67 => ?_) (fun hg67 => ?_) | refine d_splitB gt67 pt67 pt67 (fun hg67 => ?_) (fun hg67 => ?_)
        · skip
          refine d_do gt67 ?_
          refine d_val rfl (v_fap0 lk7) pt68 ?_
          refine d_do gt67 ?_
          refine d_val rfl (v_loadp lk68 (hga hn rfl) gt3) pt69 ?_
          refine d_do gt67 ?_
          refine d_val rfl (v_mv lk10) (ptS pt0) ?_
          refine d_do gt67 ?_
          refine d_val rfl (v_iaR lk69 (lkS lk0) chg_len1 (Nat.le_of_ble_eq_true rfl) (by first | rfl | omega) (by omega) (by first | rfl | omega) rfl) (ptS pt1) ?_
          refine d_do gt67 ?_
          refine d_val rfl (v_far (lkS lk1) dp1) (ptS pt2) ?_
          refine d_do gt67 ?_
          refine d_val rfl (v_loadrA (lkS lk2) LawWireMore_tk_3 rfl) (ptS pt3) ?_
          refine d_do gt67 ?_
          refine d_val rfl (v_fap0 lk6) (ptS pt4) ?_
          refine d_do gt67 ?_
          refine d_val rfl (v_loadpA (lkS lk4) (hga hn rfl) LawWireMore_tk1_3 rfl) (ptS pt5) ?_
          refine d_do gt67 ?_
          refine d_val rfl (v_eqsN (lkS lk3) (lkS lk5) LawWireMore_eq_iis) (ptS pt6) ?_
          refine d_val rfl (v_pickT lk67 (lkS lk6)) (ptS pt7) ?_
          refine d_val rfl (v_mv (lkS lk7)) pt9 ?_
          refine d_nil ?_
          refine e_nil ?_
          refine s_nil ?_
          refine n_blk ?_
          refine n_seq ?_
          refine w_reg ?_
          refine s_val rfl (v_mv lk10) pt64 ?_
          refine s_val rfl (v_add lk64 lki (by omega) (by omega)) pt65 ?_
          refine s_val rfl (v_mv lk65) pt10 ?_
          refine s_nil ?_
          refine n_thn ?_
          refine LoopTo.mk (i + 1) (by omega) (by (try dsimp only); omega) (by (try dsimp only); (try simp only [setsT, setsE, List.set_cons_zero, List.set_cons_succ]); exact ALe.same (wk1 rfl (wk1 rfl (wk1 rfl (wk1 rfl (wk1 rfl (wk1 rfl (wk1 rfl (wk1 rfl (wk1 rfl (wk1 (by first | rfl | exact ivx (by omega) | (rw [List.take_succ_eq_append_getElem hi, fr_snoc, hg67]; simp [Prod.ext_iff]; done) | (simp [fr, Prod.ext_iff]; done)) (wk1 (by first | rfl | exact ivx (by omega) | (rw [List.take_succ_eq_append_getElem hi, fr_snoc, hg67]; simp [Prod.ext_iff]; done) | (simp [fr, Prod.ext_iff]; done)) (wk1 rfl (wk1 rfl (wk1 rfl (wk1 rfl (wk1 rfl (wk1 rfl (wk1 rfl (wk1 rfl (wk1 rfl (wk1 rfl (wk1 rfl (wk1 rfl (wk1 rfl (wk1 rfl (wk1 rfl (wk1 rfl (wk1 rfl (wk1 rfl (wk1 rfl (wk1 rfl (wk1 rfl (wk1 rfl (wk1 rfl (wk1 rfl (wk1 rfl (wk1 rfl (wk1 rfl (wk1 rfl (wk1 rfl (wk1 rfl (wk1 rfl (wk1 rfl (wk1 rfl (wk1 rfl (wk1 rfl (wk1 rfl (wk1 rfl (wk1 rfl (wk1 rfl (wk1 rfl (wk1 rfl (wk1 rfl (wk1 rfl (wk1 rfl (wk1 rfl (wk1 rfl (wk1 rfl (wk1 rfl (wk1 rfl (wk1 rfl (wka (wka (wka (wka (wka (wka (wka (wka (wka (wka (wka (wka (wka (wka (wka (wka (wka (wk1 rfl (wk1 rfl (wk1 rfl (wk1 rfl (wk1 rfl (wk1 rfl (wk1 rfl (wk1 rfl (wk1 rfl (wk1 rfl (wk1 rfl (wk1 rfl (wk1 rfl (wk1 rfl (wk1 rfl (wk1 rfl (wk1 rfl (wk1 rfl (wk1 rfl wk0))))))))))))))))))))))))))))))))))))))))))))))))))))))))))))))))))))))))))))))))))))))))))))))))) rfl)
        · skip
          refine d_no gt67 pt68 ?_
          refine d_no gt67 pt69 ?_
          refine d_no gt67 (ptS pt0) ?_
          refine d_no gt67 (ptS pt1) ?_
          refine d_no gt67 (ptS pt2) ?_
          refine d_no gt67 (ptS pt3) ?_
          refine d_no gt67 (ptS pt4) ?_
          refine d_no gt67 (ptS pt5) ?_
          refine d_no gt67 (ptS pt6) ?_
          refine d_val rfl (v_pickF lk67 lkb) (ptS pt7) ?_
          refine d_val rfl (v_mv (lkS lk7)) pt9 ?_
          refine d_nil ?_
          refine e_nil ?_
          refine s_nil ?_
          refine n_blk ?_
          refine n_seq ?_
          refine w_reg ?_
          refine s_val rfl (v_mv lk10) pt64 ?_
          refine s_val rfl (v_add lk64 lki (by omega) (by omega)) pt65 ?_
          refine s_val rfl (v_mv lk65) pt10 ?_
          refine s_nil ?_
          refine n_thn ?_
          refine LoopTo.mk (i + 1) (by omega) (by (try dsimp only); omega) (by (try dsimp only); (try simp only [setsT, setsE, List.set_cons_zero, List.set_cons_succ]); exact ALe.same (wk1 rfl (wk1 rfl (wk1 rfl (wk1 rfl (wk1 rfl (wk1 rfl (wk1 rfl (wk1 rfl (wk1 rfl (wk1 (by first | rfl | exact ivx (by omega) | (rw [List.take_succ_eq_append_getElem hi, fr_snoc, hg67]; rfl)) (wk1 (by first | rfl | exact ivx (by omega) | (rw [List.take_succ_eq_append_getElem hi, fr_snoc, hg67]; rfl)) (wk1 rfl (wk1 rfl (wk1 rfl (wk1 rfl (wk1 rfl (wk1 rfl (wk1 rfl (wk1 rfl (wk1 rfl (wk1 rfl (wk1 rfl (wk1 rfl (wk1 rfl (wk1 rfl (wk1 rfl (wk1 rfl (wk1 rfl (wk1 rfl (wk1 rfl (wk1 rfl (wk1 rfl (wk1 rfl (wk1 rfl (wk1 rfl (wk1 rfl (wk1 rfl (wk1 rfl (wk1 rfl (wk1 rfl (wk1 rfl (wk1 rfl (wk1 rfl (wk1 rfl (wk1 rfl (wk1 rfl (wk1 rfl (wk1 rfl (wk1 rfl (wk1 rfl (wk1 rfl (wk1 rfl (wk1 rfl (wk1 rfl (wk1 rfl (wk1 rfl (wk1 rfl (wk1 rfl (wk1 rfl (wk1 rfl (wk1 rfl (wka (wka (wka (wka (wka (wka (wka (wka (wka (wka (wka (wka (wka (wka (wka (wka (wka (wk1 rfl (wk1 rfl (wk1 rfl (wk1 rfl (wk1 rfl (wk1 rfl (wk1 rfl (wk1 rfl (wk1 rfl (wk1 rfl (wk1 rfl (wk1 rfl (wk1 rfl (wk1 rfl (wk1 rfl (wk1 rfl (wk1 rfl (wk1 rfl (wk1 rfl wk0))))))))))))))))))))))))))))))))))))))))))))))))))))))))))))))))))))))))))))))))))))))))))))))))) rfl)
      · skip
        have hin : i = t.2.length - 1 := by omega
        refine w_exit ?_
        refine x_thn ?_
        refine x_thn ?_
        refine x_blk ?_
        refine n_seq ?_
        refine w_seq ?_
        refine w_reg ?_
        refine s_val rfl (v_mv lki) pt11 ?_
        refine s_nil ?_
        refine n_seq ?_
        refine w_seq ?_
        refine w_seq ?_
        refine w_reg ?_
        refine s_val rfl (v_mv lk9) (ptS pt8) ?_
        refine s_nil ?_
        refine n_seq ?_
        first | refine w_cond (lkS lk8) (fun hc5 => ?_) (fun hc5 => ?_) | refine w_condB (lkS lk8) (fun hc5 => ?_) (fun hc5 => ?_)
        · skip
          refine w_reg ?_
          refine s_val rfl (v_mv lk11) (ptS pt9) ?_
          refine s_val rfl (v_fap0 lk6) (ptS pt10) ?_
          refine s_val rfl (v_fap (lkS lk10)) (ptS pt11) ?_
          refine s_val rfl (v_loadp (lkS lk11) (hga hn rfl) gt3) (ptS pt12) ?_
          refine s_val rfl (v_lenS (lkS lk12)) (ptS pt13) ?_
          refine s_val rfl (v_add lki (lkS lk13) (by omega) (by omega)) (ptS pt14) ?_
          refine s_val rfl (v_add (lkS lk9) (lkS lk14) (by omega) (by omega)) (ptS pt15) ?_
          refine s_val rfl (v_mv (lkS lk15)) pt11 ?_
          refine s_nil ?_
          refine n_seq ?_
          refine w_seq ?_
          refine w_reg ?_
          refine s_val rfl (v_mv lk4) (ptS pt16) ?_
          refine s_val rfl (v_eql (lkS lk16) lki) (ptS pt17) ?_
          refine s_val rfl (v_mv (lkS lk17)) (ptS pt18) ?_
          refine s_known (gtS gt18) (b := true) (by exact decide_eq_true hvu) (ptS pt18) ?_
          refine s_do (gtS gt18) ?_
          refine s_val rfl (v_mv lk3) (ptS pt19) ?_
          refine s_do (gtS gt18) ?_
          refine s_val rfl (v_lenS (lkS lk19)) (ptS pt20) ?_
          refine s_do (gtS gt18) ?_
          refine s_val rfl (v_mv lk8) (ptS pt21) ?_
          refine s_do (gtS gt18) ?_
          refine s_val rfl (v_lenS (lkS lk21)) (ptS pt22) ?_
          refine s_do (gtS gt18) ?_
          refine s_val rfl (v_mv lk11) (ptS pt23) ?_
          refine s_do (gtS gt18) ?_
          refine s_val rfl (v_add (lkS lk22) (lkS lk23) (by omega) (by omega)) (ptS pt24) ?_
          refine s_do (gtS gt18) ?_
          refine s_val rfl (v_eql (lkS lk20) (lkS lk24)) (ptS pt25) ?_
          refine s_val rfl (v_pickT (lkS lk18) (lkS lk25)) (ptS pt26) ?_
          refine s_val rfl (v_mv (lkS lk26)) pt2 ?_
          refine s_nil ?_
          refine n_seq ?_
          refine w_rets ?_
          refine w_ret (rs1 (rr_t gt2)) ?_
          refine rt (by first | rfl | (simp only [AV.lt, AV.ltL, Ent.lt, List.all_cons, List.all_nil, Bool.and_true, Bool.and_self, decide_true, chg_lt, u8_lt, loc_lt, in_lt, ltL_app]; done) | (simp [AV.lt, AV.ltL, Ent.lt, chg_lt, u8_lt, loc_lt, in_lt, ltL_app, *]; done) | (simp [AV.lt, AV.ltL, Ent.lt, chg_lt, u8_lt, loc_lt, in_lt, ltL_app, *]; omega)) ?_
          refine bvx ?_; rw [hin] at hc5; rw [if_pos hv, if_pos hvu, sb_size, sb_size, hml, if_pos hc5]; exact decide_eq_true (by omega)
        · skip
          refine w_skip ?_
          refine n_seq ?_
          refine w_seq ?_
          refine w_reg ?_
          refine s_val rfl (v_mv lk4) (ptS pt16) ?_
          refine s_val rfl (v_eql (lkS lk16) lki) (ptS pt17) ?_
          refine s_val rfl (v_mv (lkS lk17)) (ptS pt18) ?_
          refine s_known (gtS gt18) (b := true) (by exact decide_eq_true hvu) (ptS pt18) ?_
          refine s_do (gtS gt18) ?_
          refine s_val rfl (v_mv lk3) (ptS pt19) ?_
          refine s_do (gtS gt18) ?_
          refine s_val rfl (v_lenS (lkS lk19)) (ptS pt20) ?_
          refine s_do (gtS gt18) ?_
          refine s_val rfl (v_mv lk8) (ptS pt21) ?_
          refine s_do (gtS gt18) ?_
          refine s_val rfl (v_lenS (lkS lk21)) (ptS pt22) ?_
          refine s_do (gtS gt18) ?_
          refine s_val rfl (v_mv lk11) (ptS pt23) ?_
          refine s_do (gtS gt18) ?_
          refine s_val rfl (v_add (lkS lk22) (lkS lk23) (by omega) (by omega)) (ptS pt24) ?_
          refine s_do (gtS gt18) ?_
          refine s_val rfl (v_eql (lkS lk20) (lkS lk24)) (ptS pt25) ?_
          refine s_val rfl (v_pickT (lkS lk18) (lkS lk25)) (ptS pt26) ?_
          refine s_val rfl (v_mv (lkS lk26)) pt2 ?_
          refine s_nil ?_
          refine n_seq ?_
          refine w_rets ?_
          refine w_ret (rs1 (rr_t gt2)) ?_
          refine rt (by first | rfl | (simp only [AV.lt, AV.ltL, Ent.lt, List.all_cons, List.all_nil, Bool.and_true, Bool.and_self, decide_true, chg_lt, u8_lt, loc_lt, in_lt, ltL_app]; done) | (simp [AV.lt, AV.ltL, Ent.lt, chg_lt, u8_lt, loc_lt, in_lt, ltL_app, *]; done) | (simp [AV.lt, AV.ltL, Ent.lt, chg_lt, u8_lt, loc_lt, in_lt, ltL_app, *]; omega)) ?_
          refine bvx ?_; rw [hin] at hc5; rw [if_pos hv, if_pos hvu, sb_size, sb_size, hml, if_neg (by rw [hc5]; simp)]; exact decide_eq_true (by omega)

set_option maxRecDepth 100000 in
theorem lifted (os : Os) (started : os.Started) (H : Type) (enc : TypeId × Value → H) :
    ReturnsInHanded {} Try.checked os 6 .any (Rows.wireMoreSpec.pre6 enc Try.prog Try.f6 Rows.wireMoreRow.domain false) (Rows.wireMoreSpec.post enc Try.prog Try.f6 false true false false) := by
  refine returnsInHanded_of_change (C := Try.checked) own started (by kernel_rfl) Try.func6
    (ChangeSpec.witness6 (enc := enc) (C := Try.checked) false ⟨#[], #[.agg #[.int .i64 0, .int .i64 0, .string ⟨#[]⟩, .slice none 0 0]], []⟩ 8 (by kernel_rfl) (by kernel_rfl) (by kernel_rfl) (by kernel_rfl)) ?_
  intro W base args ds gs before hval0 hW0 _ _
  have hval : ∀ (j : Nat) t v, Try.f6.params[j]? = some t → args[j]? = some v → Value.okWide Try.prog W .any base t v := hval0
  have hW := hW0
  obtain ⟨p, q, hA0, _, _, _, _⟩ := hW
  have hA : DataW.TrodAll enc Try.prog W 0 (fun _ => true) true Try.f6.params.toList args.toList ds p := hA0
  have hfin : ∀ W', Below W.heap.size W W' → (∃ d, ds = d) → Rows.wireMoreSpec.fn H ds = { results := [.lit (.bool true)], args := ds } → Rows.wireMoreSpec.post enc Try.prog Try.f6 false true false false W args (.bool true) W' :=
    fun W' hb _ hs => law_post laidOut (by kernel_rfl) rfl Try.underlying4 rfl hs hW0 hb
  rw [Try.params6] at hA hval
  obtain ⟨v0, vs0, d0, ds0, p0, q0, hargs, rfl, rfl, h0, r0⟩ := trodAll_cons hA
  obtain ⟨rfl, rfl, rfl⟩ := trodAll_nil r0
  obtain rfl : args = #[v0] := by cases args; simp_all
  obtain ⟨t, ht, k0⟩ := arg_struct TabD Try.underlying26 (by kernel_rfl) (hval 0 26 _ rfl rfl) h0
  refine (law_calls (walk (okT_of ht)) (repL1 k0 repL0)).mono fun e W' ⟨he, hb⟩ => ?_
  subst he
  exact ⟨_, rfl, hfin W' hb ⟨_, rfl⟩ rfl⟩

theorem proved : Rows.WireMoreSaid :=
  OpenClaim.holds_of_wide 6 Try.f6 rfl rfl rfl rfl rfl rfl rfl ⟨rfl, rfl, rfl, rfl, rfl⟩ rfl rfl rfl rfl rfl (by kernel_rfl) Try.func6 (by kernel_rfl)
    (of_decide_eq_true (by kernel_rfl)) (by unfold Func.isWrapper; first | (rw [if_pos (by decide +kernel)]; kernel_rfl) | (rw [if_neg (by decide +kernel)]; exact ⟨rfl, rfl⟩))
    (fun os started H enc _ => lifted os started H enc)

end Go.Proofs.Ytmbebimingkfeaa.wireMore
