/-
  Contracts on plain data: strings.Builder, told as two entries of the proof's heap: the builder, its bytes. Conditions: those that each theorem names.
-/
import Derived.Test.YtgjchdhdopgkkaaDoorLineS
import Derived.Tactics
import Derived.Tactics2
set_option linter.unusedVariables false
set_option linter.unusedSimpArgs false
set_option maxRecDepth 100000
namespace Go.Proofs.YtgjchdhdopgkkaaDoor
open Go.Ab Go.RowKit
section
theorem BldA_sc1_1 {a0 a1 c0 : AV} {l : List AV} : setCells (a0 :: a1 :: l) 1 [c0] = a0 :: c0 :: l := rfl
end
/-- (*strings.Builder).WriteString -/
def c19 : AC := (.seq (.reg [⟨(some 4), none, (.mv (.const (.int .i64 0)))⟩, ⟨(some 5), none, (.mv (.const .nilIface))⟩]) (.seq (.reg [⟨(some 6), none, (.mv (.tmp 0))⟩, ⟨(some 7), none, (.call (.func 33) [(.tmp 6)])⟩]) (.seq (.reg [⟨(some 8), none, (.mv (.tmp 0))⟩, ⟨(some 9), none, (.mv (.tmp 0))⟩, ⟨(some 10), none, (.nck (.tmp 9))⟩, ⟨(some 11), none, (.fa 1 (.tmp 10))⟩, ⟨(some 12), none, (.load false 1 (.tmp 11))⟩, ⟨(some 13), none, (.mv (.tmp 1))⟩, ⟨(some 14), none, (.app 5 1 1 (.tmp 12) (.tmp 13))⟩, ⟨(some 15), none, (.nck (.tmp 8))⟩, ⟨(some 16), none, (.fa 1 (.tmp 15))⟩, ⟨none, none, (.store 1 (.tmp 16) (.tmp 14))⟩]) (.seq (.reg [⟨(some 17), none, (.mv (.tmp 1))⟩, ⟨(some 18), none, (.len true (.tmp 17))⟩, ⟨(some 4), none, (.mv (.tmp 18))⟩, ⟨(some 5), none, (.mv (.const .nilIface))⟩]) .ret))))
theorem k19 : compF Tryd.prog 19 = some ⟨c19, [(.tmp 4), (.tmp 5)], 19⟩ := by kernel_rfl
theorem i19 {a0 a1 : AV} {h : AH} {R : AE → Prop} (hw : ∀ n, h.length = n → (∀ e ∈ h, e.lt n = true) → AV.ltL n [a0, a1] = true → AV.bdL [a0, a1] → aw Tryd.prog n c19 (retA [(.tmp 4), (.tmp 5)] fun x h' => ∃ z, h' = h ++ z ∧ x.lt n = true ∧ R x) [a0, a1, .any, .any, .any, .any, .any, .any, .any, .any, .any, .any, .any, .any, .any, .any, .any, .any, .any] (h ++ [])) : ACalls Tryd.prog 19 [a0, a1] h fun x h' => h' = h ∧ R x := ACalls.into k19 rfl hw
theorem w19 {a0 a1 : AV} {h : AH} {res : AV} (hw : ∀ n, h.length = n → (∀ e ∈ h, e.lt n = true) → AV.ltL n [a0, a1] = true → AV.bdL [a0, a1] → aw Tryd.prog n c19 (retA [(.tmp 4), (.tmp 5)] fun x h' => ∃ z, h' = h ++ z ∧ x.lt n = true ∧ ∃ c, x = .ret c ∧ Wk c res) [a0, a1, .any, .any, .any, .any, .any, .any, .any, .any, .any, .any, .any, .any, .any, .any, .any, .any, .any] (h ++ [])) : ACalls Tryd.prog 19 [a0, a1] h fun x h' => h' = h ∧ x = .ret res := ACalls.weak (ACalls.into k19 rfl hw)
theorem n19 {a0 a1 : AV} {h : AH} {R : AE → AH → Prop} (hw : ∀ n, h.length = n → (∀ e ∈ h, e.lt n = true) → AV.ltL n [a0, a1] = true → AV.bdL [a0, a1] → aw Tryd.prog n c19 (retA [(.tmp 4), (.tmp 5)] R) [a0, a1, .any, .any, .any, .any, .any, .any, .any, .any, .any, .any, .any, .any, .any, .any, .any, .any, .any] (h ++ [])) : ACalls Tryd.prog 19 [a0, a1] h R := ACalls.intoN k19 rfl hw
theorem j19 {a0 a1 : AV} {h : AH} {R : AE → AH → Prop} (hw : ∀ n, h.length = n → (∀ e ∈ h, e.lt n = true) → AV.ltL n [a0, a1] = true → AV.bdL [a0, a1] → aw Tryd.prog n c19 (retA [(.tmp 4), (.tmp 5)] fun x h' => ∃ y z, h' = y ++ z ∧ y.length = n ∧ (∀ e ∈ y, e.lt n = true) ∧ x.lt n = true ∧ R x y) [a0, a1, .any, .any, .any, .any, .any, .any, .any, .any, .any, .any, .any, .any, .any, .any, .any, .any, .any] (h ++ [])) : ACalls Tryd.prog 19 [a0, a1] h R := ACalls.intoG k19 rfl hw
/-- (*strings.Builder).Len -/
def c23 : AC := (.seq (.reg [⟨(some 2), none, (.mv (.const (.int .i64 0)))⟩]) (.seq (.reg [⟨(some 3), none, (.mv (.tmp 0))⟩, ⟨(some 4), none, (.nck (.tmp 3))⟩, ⟨(some 5), none, (.fa 1 (.tmp 4))⟩, ⟨(some 6), none, (.load false 1 (.tmp 5))⟩, ⟨(some 7), none, (.len false (.tmp 6))⟩, ⟨(some 2), none, (.mv (.tmp 7))⟩]) .ret))
theorem k23 : compF Tryd.prog 23 = some ⟨c23, [(.tmp 2)], 8⟩ := by kernel_rfl
theorem i23 {a0 : AV} {h : AH} {R : AE → Prop} (hw : ∀ n, h.length = n → (∀ e ∈ h, e.lt n = true) → AV.ltL n [a0] = true → AV.bdL [a0] → aw Tryd.prog n c23 (retA [(.tmp 2)] fun x h' => ∃ z, h' = h ++ z ∧ x.lt n = true ∧ R x) [a0, .any, .any, .any, .any, .any, .any, .any] (h ++ [])) : ACalls Tryd.prog 23 [a0] h fun x h' => h' = h ∧ R x := ACalls.into k23 rfl hw
theorem w23 {a0 : AV} {h : AH} {res : AV} (hw : ∀ n, h.length = n → (∀ e ∈ h, e.lt n = true) → AV.ltL n [a0] = true → AV.bdL [a0] → aw Tryd.prog n c23 (retA [(.tmp 2)] fun x h' => ∃ z, h' = h ++ z ∧ x.lt n = true ∧ ∃ c, x = .ret c ∧ Wk c res) [a0, .any, .any, .any, .any, .any, .any, .any] (h ++ [])) : ACalls Tryd.prog 23 [a0] h fun x h' => h' = h ∧ x = .ret res := ACalls.weak (ACalls.into k23 rfl hw)
theorem n23 {a0 : AV} {h : AH} {R : AE → AH → Prop} (hw : ∀ n, h.length = n → (∀ e ∈ h, e.lt n = true) → AV.ltL n [a0] = true → AV.bdL [a0] → aw Tryd.prog n c23 (retA [(.tmp 2)] R) [a0, .any, .any, .any, .any, .any, .any, .any] (h ++ [])) : ACalls Tryd.prog 23 [a0] h R := ACalls.intoN k23 rfl hw
theorem j23 {a0 : AV} {h : AH} {R : AE → AH → Prop} (hw : ∀ n, h.length = n → (∀ e ∈ h, e.lt n = true) → AV.ltL n [a0] = true → AV.bdL [a0] → aw Tryd.prog n c23 (retA [(.tmp 2)] fun x h' => ∃ y z, h' = y ++ z ∧ y.length = n ∧ (∀ e ∈ y, e.lt n = true) ∧ x.lt n = true ∧ R x y) [a0, .any, .any, .any, .any, .any, .any, .any] (h ++ [])) : ACalls Tryd.prog 23 [a0] h R := ACalls.intoG k23 rfl hw
abbrev byC (b : UInt8) : List AV := [.v (.int .u8 b.toNat)]
theorem by_lt {n : Nat} (l : Bs) : AV.ltL n (rows byC l) = true := rows_lt (fun _ _ => rfl) l
theorem by_len1 : ∀ x, (byC x).length = 1 := fun _ => rfl
theorem by_len (l : Bs) : (rows byC l).length = l.length * 1 := rows_len by_len1 l
theorem by_leaf (l : Bs) : (rows byC l).all leaf = true := rows_leaf (fun _ => rfl) l
theorem by_map (l : Bs) : rows byC l = l.map fun b => AV.v (.int .u8 b.toNat) := by
  induction l with
  | nil => rfl
  | cons c l ih => rw [show rows byC (c :: l) = byC c ++ rows byC l from rfl, ih]; rfl
theorem repL_by {w : World} {g : Gh} {l : Bs} {vs : List Value} : RepL w g (rows byC l) vs ↔ vs = l.map fun b => Value.int .u8 b.toNat := repL_v fun b : UInt8 => Value.int .u8 b.toNat
theorem lies_self {P : Program} {T c : Nat} (hs : P.cellsOf T ≠ 0) (hc : 1 ≤ c) : liesAt P P.depth T c 0 T 1 = true := by
  obtain ⟨d, hd⟩ : ∃ d, P.depth = d + 1 := ⟨_, rfl⟩
  have hsl : sameLayout P P.depth T T = true := by rw [hd]; unfold sameLayout; simp
  have hr : rowAt P (sameLayout P P.depth · T) P.depth T c 0 1 = true := by
    conv => lhs; arg 3; rw [hd]
    unfold rowAt
    rw [if_neg hs]
    simp [hsl, hc]
  conv => lhs; arg 2; rw [hd]
  unfold liesAt
  rw [hr]; rfl
set_option maxHeartbeats 1000000 in
theorem cpcheck_fresh (b n : Nat) (w : World) (h0 : w.cell? ⟨b, 0, none⟩ = some (.pointer none)) (hsh : w.shape? b = some (44, n)) (hn : 2 ≤ n) (hfz : w.frozen? ⟨b, 0, none⟩ = false) :
    Calls Tryd.prog 33 #[.pointer (some ⟨b, 0, none⟩)] w fun e w' => e = .returned (.tuple #[]) ∧ w' = w.setCell ⟨b, 0, none⟩ (.pointer (some ⟨b, 0, none⟩)) := by
  obtain ⟨j, hj, hjs⟩ := Option.map_eq_some_iff.1 Tryd.Builder_Extra_156.sizeBuilder
  have hcs : Tryd.prog.cellsOf 44 = 2 := by kernel_rfl
  have hl : liesAt Tryd.prog Tryd.prog.depth 44 (n / Tryd.prog.cellsOf 44) 0 44 1 = true := lies_self (by rw [hcs]; decide) (by rw [hcs]; omega)
  go_enter Tryd.func33, Tryd.ntmps33
  go_wp2
  rw [Lib.run_to_unsafe w ⟨b, 0, none⟩ Tryd.underlying41 Tryd.underlying68 hj (by rw [hjs]; decide) hsh (by show 0 < n; omega)]
  simp only [Result.andThen]
  rw [Oper.upon_value]
  go_wp2
  rw [run_callFunc_extern Tryd.func43 (by kernel_rfl) (by kernel_rfl) (by kernel_rfl) (e := Extern.AbiNoEscape.same) (by kernel_rfl)]
  rw [Lib.run_noEscape]
  simp only [Result.andThen]
  rw [Oper.upon_value]
  go_wp2
  rw [Lib.run_from_unsafe w ⟨b, 0, none⟩ Tryd.underlying68 Tryd.underlying41 hj hsh hl]
  simp only [Result.andThen]
  rw [Oper.upon_value]
  go_wp2
  go_end0
  exact ⟨rfl, rfl⟩
def bldP (id v0 : Nat) (p : AV) : Prop := p = .v (.pointer none) ∨ p = .ptr id v0 0
theorem bldcheck_a {p B : AV} {id v0 : Nat} {h : AH} (h1 : h[id]? = some (.mk v0 44 2 [p, B])) (hp : bldP id v0 p) :
    ACalls Tryd.prog 33 [.ptr id v0 0] h fun r h' => r = .ret (.tup []) ∧ h' = h.set id (.mk v0 44 2 [.ptr id v0 0, B]) := by
  refine ⟨by kernel_rfl, fun w g vs hs ha => ?_⟩
  simp only [RepL, Rep] at ha
  obtain ⟨u1, us1, e1, ⟨b, cap, hl, rfl⟩, rfl⟩ := ha
  obtain rfl : vs = #[.pointer (some ⟨b, 0, none⟩)] := by cases vs; simp_all
  obtain ⟨A, cap', f1, fm, f3⟩ := hs.ent _ _ _ _ _ h1
  rw [hl] at f1
  simp only [Option.some.injEq, Prod.mk.injEq] at f1
  obtain ⟨rfl, rfl⟩ := f1
  rcases f3 with ⟨hz, _⟩ | ⟨b', arr, e, hc0, hd, hb, hsz, hle, hrl⟩
  · cases hz
  cases e
  simp only [List.length_cons, List.length_nil, RepL] at hrl hle
  obtain ⟨u, us, e2, hu, u', us', rfl, hu', rfl⟩ := hrl
  have how : OwAt g h id b := ⟨v0, _, 2, _, _, cap, h1, hl, hc0, rfl⟩
  have hcell : w.cell? ⟨b, 0, none⟩ = some u := by
    rw [cell_of_row w b 0 arr _ _ hb]
    have := congrArg (·[0]?) e2
    simpa using this
  rcases hp with rfl | rfl
  · simp only [Rep] at hu
    subst hu
    obtain ⟨s1, n1, z1, _⟩ := hs.store h1 hl (k := 0) (c := .ptr id v0 0) (u := .pointer (some ⟨b, 0, none⟩)) (by simp) (by simp only [Rep]; exact ⟨b, cap, hl, rfl⟩)
    have hsh : w.shape? b = some (44, arr.size) := by simp [World.shape?, hb]
    refine (cpcheck_fresh b arr.size w hcell hsh (by simpa using hle) z1).mono ?_
    rintro e w' ⟨rfl, rfl⟩
    refine ⟨.ret (.tup []), _, g, ?_, s1, Gh.le.refl g, ⟨rfl, rfl, rfl, by simp [World.setCell], fun k hk ho => heap_setCell_other _ _ _ _ (fun e => ho ⟨id, by simpa [e] using how⟩)⟩, ?_, rfl, rfl⟩
    · simp only [EndR, Rep]; exact ⟨#[], rfl, by simp only [RepL]⟩
    · rintro k ⟨m, v, ty, s, c, b2, cap2, q1, q2, q3, q4⟩
      refine .inl ?_
      by_cases hm : m = id
      · subst hm
        rw [List.getElem?_set_self (List.getElem?_eq_some_iff.1 h1).1] at q1
        cases q1
        exact ⟨m, _, _, _, _, b2, cap2, h1, q2, q3, q4⟩
      · rw [List.getElem?_set_ne (Ne.symm hm)] at q1
        exact ⟨m, v, ty, s, c, b2, cap2, q1, q2, q3, q4⟩
  · simp only [Rep] at hu
    obtain ⟨b2, cap2, l2, rfl⟩ := hu
    rw [hl] at l2
    cases l2
    refine (Any.Builder_copyCheck_used { Tryd.lays156 with } Tryd.Builder_Extra_156.toX72 b w hcell).mono ?_
    rintro e w' ⟨rfl, rfl⟩
    refine ⟨.ret (.tup []), h, g, ?_, hs, Gh.le.refl g, Fr.refl _ _, fun k hk => .inl hk, rfl, (hx_self h1).symm⟩
    simp only [EndR, Rep]; exact ⟨#[], rfl, by simp only [RepL]⟩
theorem ltL_app2 {n : Nat} : ∀ {a b : List AV}, AV.ltL n (a ++ b) = (AV.ltL n a && AV.ltL n b)
  | [], b => by simp [AV.ltL]
  | c :: a, b => by simp [AV.ltL, ltL_app2 (a := a) (b := b), Bool.and_assoc]
theorem bldWrite_a {p : AV} {L : Bs} {s : ByteArray} {id ib v0 v : Nat} {h : AH} (h1 : h[id]? = some (.mk v0 44 2 [p, .own ib v L.length])) (h2 : h[ib]? = some (.mk v 5 1 (rows byC L))) (hne : id ≠ ib) (hp : bldP id v0 p) (hz : L.length + s.size ≤ 140737488355328) :
    ACalls Tryd.prog 19 [.ptr id v0 0, sv s] h fun r h' => r = .ret (.tup [iv s.size, .v .nilIface]) ∧ h' = (h.set id (.mk v0 44 2 [.ptr id v0 0, .own ib (v + 1) (L ++ aB s).length])).set ib (.mk (v + 1) 5 1 (rows byC (L ++ aB s))) := by
  have hid : id < h.length := (List.getElem?_eq_some_iff.1 h1).1
  have hib : ib < h.length := (List.getElem?_eq_some_iff.1 h2).1
  have hpl : p.lt h.length = true := by rcases hp with rfl | rfl <;> simp [AV.lt, hid]
  refine j19 ?_
  intro N hn hlt hlA hbd
  try simp only [AV.bdL, AV.bd, and_true, true_and] at hbd
  rw [hn] at hpl
  have hid' : id < N := by omega
  have hib' : ib < N := by omega
  refine aw_heap (h1 := (h.set id (.mk v0 44 2 [p, .own ib v L.length])).set ib (.mk v 5 1 (rows byC L)) ++ []) (by rw [hx2_self h1 h2]) ?_
  refine w_seq ?_
  refine w_reg ?_
  refine s_val rfl (v_mv lki) pt4 ?_
  refine s_val rfl (v_mv rfl) pt5 ?_
  refine s_nil ?_
  refine n_seq ?_
  refine w_seq ?_
  refine w_reg ?_
  refine s_val rfl (v_mv lk0) pt6 ?_
  refine s_calls (mp1 lk6 mp0) (bldcheck_a (B := .own ib v L.length) (hx2_at1 hne hid) hp) (hx2_set1 hne hid) pt7 ?_
  refine s_nil ?_
  refine n_seq ?_
  refine w_seq ?_
  refine w_reg ?_
  refine s_val rfl (v_mv lk0) pt8 ?_
  refine s_val rfl (v_mv lk0) pt9 ?_
  refine s_val rfl (v_nckp lk9) pt10 ?_
  refine s_val rfl (v_fap0 lk10) pt11 ?_
  refine s_val rfl (v_loadp lk11 (hx2_at1 hne hid) gt1) pt12 ?_
  refine s_val rfl (v_mv lk1) pt13 ?_
  refine s_eff rfl rfl (e_app (sc_str lk13) lk12 (hx2_at2 hib) (by_len _) (by omega) (by rw [← by_map]; exact by_leaf _) (hx2_set2 hib)) pt14 ?_
  refine s_val rfl (v_nckp lk8) pt15 ?_
  refine s_val rfl (v_fap0 lk15) pt16 ?_
  refine s_eff rfl rfl (e_store lk16 (cvl lk14 rfl) (hx2_at1 hne hid) rfl (Nat.le_of_ble_eq_true rfl) rfl BldA_sc1_1 (hx2_set1 hne hid)) ptn ?_
  refine s_nil ?_
  refine n_seq ?_
  refine w_seq ?_
  refine w_reg ?_
  refine s_val rfl (v_mv lk1) pt17 ?_
  refine s_val rfl (v_lenS lk17) pt18 ?_
  refine s_val rfl (v_mv lk18) pt4 ?_
  refine s_val rfl (v_mv rfl) pt5 ?_
  refine s_nil ?_
  refine n_seq ?_
  refine w_rets ?_
  refine w_ret (rsn (rm1 (rr_t gt4) (rm1 (rr_t gt5) rm0))) ?_
  refine ⟨_, [], by simp only [List.append_nil]; rfl, hx2_len hn, hx2_lt hlt (by simp [Ent.lt, AV.lt, AV.ltL, *]) (by rw [← by_map]; simp [Ent.lt, by_lt, ltL_app2]), rfl, rfl, ?_⟩
  rw [← by_map, ← rows_app, List.length_append]
  rfl
theorem bldLen_a {p : AV} {L : Bs} {id ib v0 v : Nat} {h : AH} (h1 : h[id]? = some (.mk v0 44 2 [p, .own ib v L.length])) :
    ACalls Tryd.prog 23 [.ptr id v0 0] h fun x h' => h' = h ∧ x = .ret (iv L.length) := by
  refine i23 ?_
  intro N hn hlt hlA hbd
  try simp only [AV.bdL, AV.bd, and_true, true_and] at hbd
  refine w_seq ?_
  refine w_reg ?_
  refine s_val rfl (v_mv lki) pt2 ?_
  refine s_nil ?_
  refine n_seq ?_
  refine w_seq ?_
  refine w_reg ?_
  refine s_val rfl (v_mv lk0) pt3 ?_
  refine s_val rfl (v_nckp lk3) pt4 ?_
  refine s_val rfl (v_fap0 lk4) pt5 ?_
  refine s_val rfl (v_loadp lk5 (hx_app h1) gt1) pt6 ?_
  refine s_val rfl (v_lenO lk6) pt7 ?_
  refine s_val rfl (v_mv lk7) pt2 ?_
  refine s_nil ?_
  refine n_seq ?_
  refine w_rets ?_
  refine w_ret (rs1 (rr_t gt2)) ?_
  refine rt (by first | rfl | (simp only [AV.lt, AV.ltL, Ent.lt, List.all_cons, List.all_nil, Bool.and_true, Bool.and_self, decide_true, by_lt]; done) | (simp [AV.lt, AV.ltL, Ent.lt, by_lt, *]; done) | (simp [AV.lt, AV.ltL, Ent.lt, by_lt, *]; omega)) ?_
  rfl
/-- one block has turned -/
structure Turn1 (b : Nat) (w w' : World) : Prop where
  os : w'.os = w.os
  tape : w'.tape = w.tape
  output : w'.output = w.output
  size : w.heap.size ≤ w'.heap.size
  block : ∀ k, k < w.heap.size → k ≠ b → w'.heap[k]? = w.heap[k]?
set_option maxHeartbeats 1000000 in
theorem bstring_row (b g cap : Nat) (l : Bs) (cur : Array Value) (w : World) (hbk : w.cell? ⟨b, 1, none⟩ = some (.slice (some ⟨g, 0, none⟩) l.length cap)) (hg : w.heap[g]? = some (.cells cur 5 (0, 0))) (h0 : l ≠ []) (hnc : l.length ≤ cap) (hcm : cap ≤ maxLen) (hcs : cur.size = cap) (htake : cur.toList.take l.length = l.map fun x => Value.int .u8 x.toNat) :
    Calls Tryd.prog 24 #[.pointer (some ⟨b, 0, none⟩)] w fun e w' => e = .returned (.string ⟨l.toArray⟩) ∧ Turn1 g w w' := by
  have hl0 : l.length ≠ 0 := by simpa using h0
  have c1 : w.drew.cell? ⟨b, 1, none⟩ = some (.slice (some ⟨g, 0, none⟩) l.length cap) := hbk
  have hSD : (Builtin.unsafeSliceData_ #[42] 64 #[.slice (some ⟨g, 0, none⟩) l.length cap]).run Tryd.prog w.drew = .ok (.pointer (some ⟨g, 0, none⟩)) w.drew :=
    Lib.run_unsafeSliceData_row _ _ _ _ _ _ (by omega)
  have hUS : (Builtin.unsafeString_ #[64, 3] 9 #[.pointer (some ⟨g, 0, none⟩), .int .i64 l.length]).run Tryd.prog w.drew = .ok (.string ⟨l.toArray⟩) (w.drew.freeze ⟨g, 0, none⟩ l.length) := by
    refine Lib.run_unsafeString_row w.drew 64 3 9 5 Tryd.underlying64 (by kernel_rfl) g cur.size (by have hg' : w.drew.heap[g]? = some (.cells cur 5 (0, 0)) := hg; simp [World.shape?, hg']) l h0 (by omega) (by unfold maxLen at hcm; omega) ?_
    intro j x hx
    have hg' : w.drew.heap[g]? = some (.cells cur 5 (0, 0)) := hg
    rw [Addr.add_off, Nat.zero_add, cell_of_row w.drew g j cur _ _ hg']
    have := congrArg (·[j]?) htake
    obtain ⟨hj, rfl⟩ := List.getElem?_eq_some_iff.1 hx
    simpa [List.getElem?_take, hj] using this
  have mixed : Tryd.prog.follows .mixedOrders = true := by kernel_rfl
  go_enter Tryd.func24, Tryd.ntmps24
  go_wp2
  go_region_o
  all_goals (go_wp2; go_ret; refine ⟨rfl, ?_⟩)
  all_goals
    refine ⟨?_, ?_, ?_, ?_, fun k hk hne => ?_⟩ <;> (unfold World.freeze; rw [if_neg hl0]) <;> try rfl
    · simp
    · simp only [Array.getElem?_modify]
      rw [if_neg (fun e => hne e.symm)]; rfl
theorem SimH.drop1 {w w' : World} {g : Gh} {h : AH} (hs : SimH w g h) (id : Nat) (hw : ∀ k, g.D k ∨ (∃ i, i ≠ id ∧ OwAt g h i k) → w'.heap[k]? = w.heap[k]?) (hsz : w.heap.size ≤ w'.heap.size) : SimH w' g (h.set id .gone) := by
  have hget : ∀ {i v ty s : Nat} {c : List AV}, (h.set id .gone)[i]? = some (.mk v ty s c) → i ≠ id ∧ h[i]? = some (.mk v ty s c) := by
    intro i v ty s c he
    by_cases hii : i = id
    · subst hii
      rcases Nat.lt_or_ge i h.length with hl | hl
      · rw [List.getElem?_set_self hl] at he; cases he
      · rw [List.getElem?_eq_none (by simpa using hl)] at he; cases he
    · rw [List.getElem?_set_ne (Ne.symm hii)] at he; exact ⟨hii, he⟩
  have how : ∀ i k, OwAt g (h.set id .gone) i k → i ≠ id ∧ OwAt g h i k := by
    rintro i k ⟨v, ty, s, c, b, cap, e1, e2, e3, e4⟩
    exact ⟨(hget e1).1, v, ty, s, c, b, cap, (hget e1).2, e2, e3, e4⟩
  refine ⟨?_, fun i j k h1 h2 => hs.inj i j k (how i k h1).2 (how j k h2).2, fun k hk => Nat.lt_of_lt_of_le (hs.lt k hk) hsz, ?_, ?_, hs.glob.mono (fun _ h => h) (fun k hk => hw k (.inl hk))⟩
  · intro i v ty s cs he
    obtain ⟨hne, he'⟩ := hget he
    obtain ⟨A, cap, h1, h2, h3⟩ := hs.ent i v ty s cs he'
    refine ⟨A, cap, h1, h2, h3.mono (Gh.le.refl g) (fun _ _ _ h => h) (fun k hk => hw k (.inl hk)) (fun k hk h0 => hw k (.inr ⟨i, hne, ?_⟩))⟩
    obtain ⟨a0, ea, rfl⟩ := Option.map_eq_some_iff.1 hk
    exact ⟨v, ty, s, cs, a0, cap, he', by rw [h1, ea], h0, rfl⟩
  · intro i v l hl
    obtain ⟨f1, f2⟩ := hs.fresh i v l hl
    refine ⟨by simpa using f1, fun v' ty s c he => f2 v' ty s c (hget he).2⟩
  · intro i v l hl hfr
    by_cases hii : i = id
    · subst hii
      rw [List.getElem?_set_self (hs.fresh _ _ _ hl).1] at hfr; cases hfr
    · rw [List.getElem?_set_ne (Ne.symm hii)] at hfr; exact hs.free i v l hl hfr
theorem bldString_a {p : AV} {L : Bs} {id ib v0 v : Nat} {h : AH} (h1 : h[id]? = some (.mk v0 44 2 [p, .own ib v L.length])) (h2 : h[ib]? = some (.mk v 5 1 (rows byC L))) (hL : L ≠ []) :
    ACalls Tryd.prog 24 [.ptr id v0 0] h fun r h' => r = .ret (sv (bA L)) ∧ h' = h.set ib .gone := by
  refine ⟨by kernel_rfl, fun w g vs hs ha => ?_⟩
  simp only [RepL, Rep] at ha
  obtain ⟨u1, us1, e1, ⟨b, cap, hl, rfl⟩, rfl⟩ := ha
  obtain rfl : vs = #[.pointer (some ⟨b, 0, none⟩)] := by cases vs; simp_all
  obtain ⟨A, cap', f1, fm, f3⟩ := hs.ent _ _ _ _ _ h1
  rw [hl] at f1
  simp only [Option.some.injEq, Prod.mk.injEq] at f1
  obtain ⟨rfl, rfl⟩ := f1
  rcases f3 with ⟨hz, _⟩ | ⟨b', arr, e, hc0, hd, hb, hsz, hle, hrl⟩
  · cases hz
  cases e
  simp only [List.length_cons, List.length_nil, RepL, Rep] at hrl hle
  obtain ⟨u, us, e2, hu, u', us', rfl, ⟨Ab, capb, lb, q1, q2, rfl⟩, rfl⟩ := hrl
  have hcell : w.cell? ⟨b, 1, none⟩ = some (.slice Ab L.length capb) := by
    rw [cell_of_row w b 1 arr _ _ hb]
    have := congrArg (·[1]?) e2
    simpa using this
  obtain ⟨A2, cap2, k1, k2, k3⟩ := hs.ent _ _ _ _ _ h2
  rw [lb] at k1
  simp only [Option.some.injEq, Prod.mk.injEq] at k1
  obtain ⟨rfl, rfl⟩ := k1
  rcases k3 with ⟨hz, _⟩ | ⟨gb, cur, rfl, hc2, hd2, hb2, hsz2, hle2, hrl2⟩
  · exact absurd hz (by rw [← List.length_eq_zero_iff, by_len]; simp [hL])
  rw [by_len, Nat.mul_one] at hrl2 hle2
  have htake := repL_by.1 hrl2
  have how : OwAt g h ib gb := ⟨v, _, 1, _, _, capb, h2, lb, hc2, rfl⟩
  refine (bstring_row b gb capb L cur w hcell hb2 hL q1 q2 (by simpa using hsz2) htake).mono ?_
  rintro e w' ⟨rfl, ht⟩
  have hw : ∀ k, g.D k ∨ (∃ i, i ≠ ib ∧ OwAt g h i k) → w'.heap[k]? = w.heap[k]? := by
    rintro k (hk | ⟨i, hne, hk⟩)
    · exact ht.block k (hs.lt k hk) (fun e => hd2 (e ▸ hk))
    · refine ht.block k (hs.own_not_D ⟨i, hk⟩).2 (fun e => hne ?_)
      subst e
      exact hs.inj i ib k hk how
  refine ⟨.ret (sv (bA L)), _, g, by simp only [EndR, Rep]; rfl, SimH.drop1 hs ib hw ht.size, Gh.le.refl g, ⟨ht.os, ht.tape, ht.output, ht.size, fun k hk ho => ht.block k hk (fun e => ho ⟨ib, e ▸ how⟩)⟩, ?_, rfl, rfl⟩
  rintro k ⟨i, v', ty, s, c, b2, cap2, e1, e2, e3, e4⟩
  refine .inl ⟨i, v', ty, s, c, b2, cap2, ?_, e2, e3, e4⟩
  by_cases hii : i = ib
  · subst hii
    rw [List.getElem?_set_self (List.getElem?_eq_some_iff.1 h2).1] at e1; cases e1
  · rw [List.getElem?_set_ne (Ne.symm hii)] at e1; exact e1
end Go.Proofs.YtgjchdhdopgkkaaDoor
