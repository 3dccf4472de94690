/-
  Contracts on plain data: a line is split. Condition: it is no longer than 8000 bytes.
-/
import Derived.Test.YtgjchdhdopgkkaaDoorLineA
import Derived.Test.YtgjchdhdopgkkaaDoorAbsG
import Derived.Tactics
import Derived.Tactics2
set_option linter.unusedVariables false
set_option linter.unusedSimpArgs false
set_option maxRecDepth 100000
namespace Go.Proofs.YtgjchdhdopgkkaaDoor
open Go.Ab
section
theorem LineB_split_2 {τ : Operand → AV} {y0 : Operand} {x0_0 : AV} (h0 : cellsV (τ y0) = some [x0_0]) (l0 : [x0_0].all leaf = true) : fillAV τ [(0, 1, y0)] [(.v (.string ⟨#[]⟩)), (.v (.int .i64 0)), (.sl 0 0 true [])] = some [x0_0, (.v (.int .i64 0)), (.sl 0 0 true [])] := by
  simp only [fillAV, h0, l0]
  rfl
theorem LineB_split_18 {τ : Operand → AV} {y0 : Operand} {x0_0 : AV} (h0 : cellsV (τ y0) = some [x0_0]) (l0 : [x0_0].all leaf = true) : fillAV τ [(0, 1, y0)] [(.v (.string ⟨#[]⟩))] = some [x0_0] := by
  simp only [fillAV, h0, l0]
  rfl
theorem LineB_tk_1 {a0 : AV} {l : List AV} : (a0 :: l).take 1 = [a0] := rfl
theorem LineB_sc2_1 {a0 a1 a2 c0 : AV} {l : List AV} : setCells (a0 :: a1 :: a2 :: l) 2 [c0] = a0 :: a1 :: c0 :: l := rfl
theorem LineB_sc0_1 {a0 c0 : AV} {l : List AV} : setCells (a0 :: l) 0 [c0] = c0 :: l := rfl
end
/-- line.split -/
def c14 : AC := (.seq (.reg [⟨(some 7), none, (.mv (.tmp 0))⟩, ⟨(some 8), none, (.build [(.v (.string ⟨#[]⟩)), (.v (.int .i64 0)), (.sl 0 0 true [])] [(0, (1, (.tmp 7)))])⟩, ⟨(some 9), none, (.box 59 3 (.tmp 8))⟩, ⟨(some 4), none, (.mv (.tmp 9))⟩]) (.seq (.seq (.reg [⟨(some 10), none, (.mv (.tmp 4))⟩, ⟨(some 11), none, (.call (.func 28) [(.tmp 10), (.func 15)])⟩]) (.block 0 (.loop (.seq (.seq (.reg [⟨(some 12), none, (.mv (.tmp 4))⟩, ⟨(some 13), none, (.call (.func 29) [(.tmp 12)])⟩]) (.cond (.tmp 13) .skip (.exit 0))) (.seq (.block 1 (.seq (.reg [⟨(some 16), none, (.mv (.tmp 4))⟩, ⟨(some 17), none, (.call (.func 30) [(.tmp 16)])⟩, ⟨(some 5), none, (.mv (.tmp 17))⟩]) (.seq (.reg [⟨(some 18), none, (.mv (.tmp 4))⟩, ⟨(some 19), none, (.mv (.tmp 4))⟩, ⟨(some 20), none, (.nck (.tmp 19))⟩, ⟨(some 21), none, (.fa 2 (.tmp 20))⟩, ⟨(some 22), none, (.load false 1 (.tmp 21))⟩, ⟨(some 23), none, (.mv (.tmp 5))⟩, ⟨(some 24), none, (.lit 9 1 1 [(.v (.string ⟨#[]⟩))] [(0, (1, (.tmp 23)))])⟩, ⟨(some 25), none, (.app 9 1 16 (.tmp 22) (.tmp 24))⟩, ⟨(some 26), none, (.nck (.tmp 18))⟩, ⟨(some 27), none, (.fa 2 (.tmp 26))⟩, ⟨none, none, (.store 1 (.tmp 27) (.tmp 25))⟩]) (.seq (.reg [⟨(some 28), none, (.mv (.tmp 5))⟩, ⟨(some 29), none, (.len true (.tmp 28))⟩, ⟨(some 30), none, (.bin .gtr (.tmp 29) (.const (.int .i64 24)))⟩, ⟨(some 31), none, (.mv (.tmp 30))⟩, ⟨(some 32), (some (31, false)), (.mv (.tmp 4))⟩, ⟨(some 33), (some (31, false)), (.nck (.tmp 32))⟩, ⟨(some 34), (some (31, false)), (.fa 2 (.tmp 33))⟩, ⟨(some 35), (some (31, false)), (.load false 1 (.tmp 34))⟩, ⟨(some 36), (some (31, false)), (.len false (.tmp 35))⟩, ⟨(some 37), (some (31, false)), (.bin .gtr (.tmp 36) (.const (.int .i64 12)))⟩, ⟨(some 38), none, (.pick (.tmp 31) (.const (.bool true)) (.tmp 37))⟩]) (.cond (.tmp 38) (.reg [⟨(some 39), none, (.call (.func 31) [(.const (.int .i64 2))])⟩]) .skip))))) (.reg [⟨(some 14), none, (.mv (.tmp 4))⟩, ⟨(some 15), none, (.call (.func 28) [(.tmp 14), (.func 15)])⟩])))))) (.seq (.reg [⟨(some 40), none, (.mv (.tmp 4))⟩, ⟨(some 41), none, (.nck (.tmp 40))⟩, ⟨(some 42), none, (.fa 2 (.tmp 41))⟩, ⟨(some 43), none, (.load false 1 (.tmp 42))⟩, ⟨none, none, (.store 1 (.tmp 2) (.tmp 43))⟩, ⟨none, none, (.store 1 (.tmp 3) (.const (.int .i64 0)))⟩]) .ret)))
abbrev fd14 : AFD := ⟨[⟨(some 2), none, (.new 27 1 [(.sl 0 0 true [])])⟩, ⟨(some 3), none, (.new 24 1 [(.v (.int .i64 0))])⟩], 6, 27, [(.tmp 2), (.tmp 3)], ⟨c14, [(.cell 2 false 1), (.cell 3 false 1)], 44⟩⟩
theorem k14 : compFD Tryd.prog 14 = some fd14 := by kernel_rfl
theorem d14 {a0 : AV} {h : AH} {R : AE → AH → Prop} (hw : ∀ n, h.length = n → (∀ e ∈ h, e.lt n = true) → AV.ltL n [a0] = true → AV.bdL [a0] → arun Tryd.prog (fun c T h => afterR0 Tryd.prog fd14 R (.pan c) T h) [⟨(some 2), none, (.new 27 1 [(.sl 0 0 true [])])⟩, ⟨(some 3), none, (.new 24 1 [(.v (.int .i64 0))])⟩] [a0, .any, .any, .any, .any, .any, .any, .any, .any, .any, .any, .any, .any, .any, .any, .any, .any, .any, .any, .any, .any, .any, .any, .any, .any, .any, .any, .any, .any, .any, .any, .any, .any, .any, .any, .any, .any, .any, .any, .any, .any, .any, .any, .any] (h ++ []) (fun T1 h1 => afterR0 Tryd.prog fd14 R .normal T1 h1)) : ACalls Tryd.prog 14 [a0] h R := ACalls.intoD k14 (by kernel_rfl) rfl hw
theorem taErrno (v : Value) (t : TypeId) (w : World) : (Instr.typeAssert (.iface 24 v) t 24 true).run Tryd.prog w = .ok (.tuple #[v, .bool true]) w := by
  simp [Instr.typeAssert, run_underlying Tryd.underlying24]
theorem catchS_p (pi pj : Addr) (x y : Value) (e : Int) (w : World) (h1 : w.cell? pi = some x) (h2 : w.frozen? pi = false) (h3 : w.cell? pj = some y) (h4 : w.frozen? pj = false) (hne : pi ≠ pj) :
    CallsD Tryd.prog 27 #[.pointer (some pi), .pointer (some pj)] (.panicking [{ v := .iface 24 (.int .i64 e), recovered := false }]) w fun e' u' w' =>
      e' = .returned (.tuple #[]) ∧ u' = .panicking [{ v := .iface 24 (.int .i64 e), recovered := true }] ∧ w' = (w.setCell pi (.slice none 0 0)).setCell pj (.int .i64 e) := by
  refine callsD_of_wpS Tryd.func27 rfl fun c₀ cs hu => ?_
  apply wpS_seq
  apply wpS_region
  simp [wpOpsS, go_sem, recoverD, hu, Tryd.ntmps27, Exit.thenS]
  apply wpS_seq
  apply wpS_region
  simp [wpOpsS, go_sem, Exit.thenS]
  refine wpS_cond (t := true) (by simp [Act.eval, Array.replicate]) ?_
  simp only [if_true]
  apply wpS_seq
  apply wpS_region
  simp [wpOpsS, go_sem, Exit.thenS, taErrno]
  apply wpS_seq
  apply wpS_seq
  apply wpS_region
  simp [wpOpsS, go_sem, Exit.thenS]
  refine wpS_cond (t := false) (by simp [Act.eval, Act.put, Array.replicate]) ?_
  simp only [if_false, Bool.false_eq_true]
  refine wpS_of_wp (wp_skip ?_)
  show Code.wpS _ _ _ _ _ _
  apply wpS_region
  simp [wpOpsS, go_sem, h1, h2, World.cell?_setCell_other, World.frozen?_setCell, h3, h4, hne, Ne.symm hne, bodyPostS, results, Tryd.results27]
theorem catchS_r (pi pj : Addr) (w : World) :
    CallsD Tryd.prog 27 #[.pointer (some pi), .pointer (some pj)] .returning w fun e' u' w' => e' = .returned (.tuple #[]) ∧ u' = .returning ∧ w' = w := by
  refine callsD_of_wpS Tryd.func27 rfl fun c₀ cs hu => ?_
  apply wpS_seq
  apply wpS_region
  simp [wpOpsS, go_sem, recoverD, hu, Tryd.ntmps27, Exit.thenS]
  apply wpS_seq
  apply wpS_region
  simp [wpOpsS, go_sem, Exit.thenS]
  refine wpS_cond (t := false) (by simp [Act.eval, Array.replicate]) ?_
  simp only [if_false, Bool.false_eq_true]
  refine wpS_of_wp (wp_skip ?_)
  cases c₀
  simp_all [bodyPostS, results, Tryd.results27]
theorem adefS_r {i j : Nat} {h : AH} {R : AH → Prop} (hR : R h) : ADef Tryd.prog 27 [.ptr i 0 0, .ptr j 0 0] none h R := by
  intro w g vs hs hr
  simp only [RepL, Rep] at hr
  obtain ⟨u1, us1, e1, ⟨b1, c1, l1, rfl⟩, u2, us2, rfl, ⟨b2, c2, l2, rfl⟩, rfl⟩ := hr
  obtain rfl : vs = #[.pointer (some ⟨b1, 0, none⟩), .pointer (some ⟨b2, 0, none⟩)] := by cases vs; simp_all
  refine (catchS_r _ _ w).mono ?_
  rintro e u' w' ⟨rfl, rfl, rfl⟩
  exact ⟨⟨_, rfl⟩, rfl, h, g, hs, Gh.le.refl g, Fr.refl _ _, fun k hk => .inl hk, hR⟩
theorem adefS_p {i j ti tj : Nat} {e : Int} {ci cj : AV} {h : AH} {R : AH → Prop} (hi : h[i]? = some (.mk 0 ti 1 [ci])) (hj : h[j]? = some (.mk 0 tj 1 [cj])) (hij : i ≠ j) (hR : R ((h.set i (.mk 0 ti 1 [.sl 0 1 false []])).set j (.mk 0 tj 1 [iv e]))) :
    ADef Tryd.prog 27 [.ptr i 0 0, .ptr j 0 0] (some (erA e)) h R := by
  intro w g vs hs hr v hv
  simp only [RepL, Rep] at hr hv
  subst hv
  obtain ⟨u1, us1, e1, ⟨b1, c1, l1, rfl⟩, u2, us2, rfl, ⟨b2, c2, l2, rfl⟩, rfl⟩ := hr
  obtain rfl : vs = #[.pointer (some ⟨b1, 0, none⟩), .pointer (some ⟨b2, 0, none⟩)] := by cases vs; simp_all
  obtain ⟨s1, n1, f1, o1⟩ := hs.store hi l1 (k := 0) (c := .sl 0 1 false []) (u := .slice none 0 0) (by simp) (by simp only [Rep]; exact ⟨rfl, none, 0, rfl, Nat.le_refl _, Nat.zero_le _, fun _ => rfl, fun _ => rfl, fun h => absurd rfl h⟩)
  obtain ⟨_, n2, f2, o2⟩ := hs.store hj l2 (k := 0) (c := iv e) (u := .int .i64 e) (by simp) (by simp only [Rep])
  have hj' : (h.set i (.mk 0 ti 1 ([ci].set 0 (.sl 0 1 false []))))[j]? = some (.mk 0 tj 1 [cj]) := by rw [List.getElem?_set_ne hij]; exact hj
  obtain ⟨s2, _, _, _⟩ := s1.store hj' l2 (k := 0) (c := iv e) (u := .int .i64 e) (by simp) (by simp only [Rep])
  have hne : b1 ≠ b2 := fun hb => hij (hs.inj i j b1 o1 (hb ▸ o2))
  obtain ⟨x1, hx1⟩ := Option.ne_none_iff_exists'.1 n1
  obtain ⟨x2, hx2⟩ := Option.ne_none_iff_exists'.1 n2
  refine (catchS_p ⟨b1, 0, none⟩ ⟨b2, 0, none⟩ x1 x2 e w hx1 f1 hx2 f2 (by simpa using hne)).mono ?_
  rintro e' u' w' ⟨rfl, rfl, rfl⟩
  refine ⟨⟨_, rfl⟩, ⟨_, rfl⟩, _, g, s2, Gh.le.refl g, ⟨rfl, rfl, rfl, by simp [World.setCell], ?_⟩, ?_, hR⟩
  · intro k hk ho
    rw [heap_setCell_other _ _ _ _ (fun e => ho ⟨j, by simpa [e] using o2⟩), heap_setCell_other _ _ _ _ (fun e => ho ⟨i, by simpa [e] using o1⟩)]
  · rintro k ⟨m, v, ty, s, c, b, cap, q1, q2, q3, q4⟩
    refine .inl ?_
    by_cases hm : m = j
    · subst hm
      rw [List.getElem?_set_self (by simpa using (List.getElem?_eq_some_iff.1 hj).1)] at q1
      cases q1
      exact ⟨m, _, _, _, _, b, cap, hj, q2, q3, q4⟩
    · rw [List.getElem?_set_ne (Ne.symm hm)] at q1
      by_cases hm2 : m = i
      · subst hm2
        rw [List.getElem?_set_self (List.getElem?_eq_some_iff.1 hi).1] at q1
        cases q1
        exact ⟨m, _, _, _, _, b, cap, hi, q2, q3, q4⟩
      · rw [List.getElem?_set_ne (Ne.symm hm2)] at q1
        exact ⟨m, v, ty, s, c, b, cap, q1, q2, q3, q4⟩
abbrev strC (s : ByteArray) : List AV := [sv s]
theorem str_lt {n : Nat} (l : List ByteArray) : AV.ltL n (rows strC l) = true := rows_lt (fun _ _ => rfl) l
theorem str_len1 : ∀ x, (strC x).length = 1 := fun _ => rfl
theorem str_len (l : List ByteArray) : (rows strC l).length = l.length * 1 := rows_len str_len1 l
theorem str_leaf (l : List ByteArray) : (rows strC l).all leaf = true := rows_leaf (fun _ => rfl) l
def fldsT (m : Nat) (acc : List ByteArray) (l : Bs) : List ByteArray × Int :=
  if moreL l = true then
      match fieldL l with
      | none => ([], 1)
      | some x => if 24 < x.2.1 ∨ 12 < acc.length + 1 then ([], 2) else fldsL m (acc ++ [cutF l x]) (l.drop x.2.2)
    else (acc, 0)
theorem fldsL_T (m : Nat) (acc : List ByteArray) (l : Bs) : fldsL (m + 1) acc l = fldsT m acc (l.drop (skipN l)) := rfl
theorem skipN_le (l : Bs) : skipN l ≤ l.length := by
  unfold skipN
  exact (List.takeWhile_sublist _).length_le
theorem cutF_size {l : Bs} {y : Nat × Nat × Nat} (h : fieldL l = some y) : (cutF l y).size = y.2.1 := by
  obtain ⟨h1, h2, h3⟩ := fieldL_le h
  unfold cutF
  rw [bA_size, List.length_take, List.length_drop]; omega
theorem fldsT_no {m : Nat} {fs : List ByteArray} {l : Bs} (h : moreL l = false) : fldsT m fs l = (fs, 0) := by rw [fldsT, if_neg (by simp [h])]
theorem fldsT_bad {m : Nat} {fs : List ByteArray} {l : Bs} (h : moreL l = true) (hf : fieldL l = none) : fldsT m fs l = ([], 1) := by rw [fldsT, if_pos h, hf]
theorem fldsT_many {m : Nat} {fs : List ByteArray} {l : Bs} {y : Nat × Nat × Nat} (h : moreL l = true) (hf : fieldL l = some y) (hm : 24 < y.2.1 ∨ 12 < fs.length + 1) : fldsT m fs l = ([], 2) := by rw [fldsT, if_pos h, hf]; exact if_pos hm
theorem fldsT_go {m : Nat} {fs : List ByteArray} {l : Bs} {y : Nat × Nat × Nat} (h : moreL l = true) (hf : fieldL l = some y) (hm : ¬ (24 < y.2.1 ∨ 12 < fs.length + 1)) : fldsT (m + 1) fs l = fldsT m (fs ++ [cutF l y]) ((l.drop y.2.2).drop (skipN (l.drop y.2.2))) := by rw [fldsT, if_pos h, hf]; exact if_neg hm
theorem fldsT_at {m k : Nat} {fs : List ByteArray} {l : Bs} {y : Nat × Nat × Nat} (h : moreL (l.drop k) = true) (hf : fieldL (l.drop k) = some y) (hm : ¬ (24 < y.2.1 ∨ 12 < fs.length + 1)) :
    fldsT (m + 1) fs (l.drop k) = fldsT m (fs ++ [cutF (l.drop k) y]) (l.drop (k + y.2.2 + skipN (l.drop (k + y.2.2)))) := by
  rw [fldsT_go h hf hm]
  simp only [List.drop_drop]
set_option maxHeartbeats 1000000 in
theorem lnsplit_a {s : ByteArray} {h : AH} (hz : s.size ≤ 8000) : ACalls Tryd.prog 14 [sv s] h fun x h' => h' = h ∧ x = .ret (.tup [.sl (lineL (aB s)).1.length 1 false (rows strC (lineL (aB s)).1), iv (lineL (aB s)).2]) := by
  refine ACalls.gc_same (d14 ?_)
  intro N hn hlt hlA hbd
  try simp only [AV.bdL, AV.bd, and_true, true_and] at hbd
  refine s_eff rfl rfl (e_new (hl0 hn) ha0) pt2 ?_
  refine s_eff rfl rfl (e_new (hl1 hn) ha1) pt3 ?_
  refine s_nil ?_
  refine afterR0.mk (Nat.le_of_ble_eq_true rfl) pt6 (mp1 lk2 (mp1 lk3 mp0)) (hl2 hn) (fun M hM => ?_)
  subst hM
  refine w_seq ?_
  refine w_reg ?_
  refine s_val rfl (v_mv lk0) pt7 ?_
  refine s_val rfl (v_build (LineB_split_2 (cvl lk7 rfl) rfl)) pt8 ?_
  refine s_eff rfl rfl (e_box (cvl lk8 rfl) rfl (hl2 hn) ha2) pt9 ?_
  refine s_val rfl (v_mv lk9) pt4 ?_
  refine s_nil ?_
  refine n_seqw (ALe.own0Cell (st' := 1) (ty := 9) (hga hn rfl) gt2 (hl3 hn) pt2 (Eq.trans (congrArg (fun z => List.set z _ _) ha3) (hs2 hn))) ?_
  refine w_seq ?_
  refine w_seq ?_
  refine w_reg ?_
  refine s_val rfl (v_mv lk4) pt10 ?_
  refine s_calls (mp1 lk10 (mp1 lkf mp0)) (lnrun_a (fun _ _ => lnblank_a) (runL_blk _) (hga hn rfl) (by simp [AV.lt] <;> omega) (Nat.zero_le _) hz) (hs2 hn) pt11 ?_
  refine s_nil ?_
  refine n_seq ?_
  refine w_block ?_
  refine w_loop (ι := Nat × List ByteArray × Nat × Nat) (fun (x_ : Nat × List ByteArray × Nat × Nat) => match x_ with | ⟨k, fs, v, m⟩ => [(5, .any), (12, .any), (13, .any), (14, .any), (15, .any), (16, .any), (17, .any), (18, .any), (19, .any), (20, .any), (21, .any), (22, .any), (23, .any), (24, .any), (25, .any), (26, .any), (27, .any), (28, .any), (29, .any), (30, .any), (31, .any), (32, .any), (33, .any), (34, .any), (35, .any), (36, .any), (37, .any), (38, .any), (39, .any)]) (fun (x_ : Nat × List ByteArray × Nat × Nat) => match x_ with | ⟨k, fs, v, m⟩ => [(2, .mk 0 59 3 [sv s, iv (k : Int), .own (N + 3) v fs.length]), (3, .mk v 9 1 (rows strC fs))]) (fun (x_ : Nat × List ByteArray × Nat × Nat) => match x_ with | ⟨k, fs, v, m⟩ => k ≤ s.size ∧ fs.length + m = 12 ∧ lineL (aB s) = fldsT m fs ((aB s).drop k)) (fun (x_ : Nat × List ByteArray × Nat × Nat) => match x_ with | ⟨k, fs, v, m⟩ => m) (⟨skipN (aB s), [], 0, 12⟩) (by exact ⟨skipN_le _, rfl, rfl⟩) (by try simp only [setsT, setsE, List.set_cons_zero, List.set_cons_succ]; exact ALe.same (wk1 rfl (wk1 rfl (wk1 rfl (wk1 rfl (wk1 rfl (wka (wk1 rfl (wk1 rfl (wk1 rfl (wk1 rfl (wk1 rfl (wk1 rfl (wka (wka (wka (wka (wka (wka (wka (wka (wka (wka (wka (wka (wka (wka (wka (wka (wka (wka (wka (wka (wka (wka (wka (wka (wka (wka (wka (wka (wk1 rfl (wk1 rfl (wk1 rfl (wk1 rfl wk0)))))))))))))))))))))))))))))))))))))))))))) (by simp [rows])) ?_
  rintro ⟨k, fs, v, m⟩ hi1
  try simp only [setsT, setsE, List.set_cons_zero, List.set_cons_succ]
  obtain ⟨hi1, hi2, hi3⟩ := hi1
  refine w_seq ?_
  refine w_seq ?_
  refine w_reg ?_
  refine s_val rfl (v_mv lk4) pt12 ?_
  refine s_callp (mp1 lk12 mp0) (lnmore_a (hga hn rfl) hi1) pt13 ?_
  refine s_nil ?_
  refine n_seq ?_
  refine w_condB lk13 (fun hc1 => ?_) (fun hc1 => ?_)
  · skip
    have hm := hc1; rw [moreL_at] at hm; simp only [Bool.and_eq_true, decide_eq_true_eq] at hm
    refine w_skip ?_
    refine n_seq ?_
    refine w_seq ?_
    refine w_block ?_
    refine w_seq ?_
    refine w_reg ?_
    refine s_val rfl (v_mv lk4) pt16 ?_
    by_cases hs10 : ∃ y, fieldL ((aB s).drop k) = some y
    · skip
      obtain ⟨y, hy⟩ := hs10
      have hle := fieldL_le hy
      have hcs := cutF_size hy
      have hL : ((aB s).drop k).length = s.size - k := by rw [List.length_drop, aB_len]
      refine s_calls (mp1 lk16 mp0) (lnfield_a hy (hga hn rfl) (by simp [AV.lt] <;> omega) hm.1 hz) (hs2 hn) pt17 ?_
      refine s_val rfl (v_mv lk17) pt5 ?_
      refine s_nil ?_
      refine n_seq ?_
      refine w_seq ?_
      refine w_reg ?_
      refine s_val rfl (v_mv lk4) pt18 ?_
      refine s_val rfl (v_mv lk4) pt19 ?_
      refine s_val rfl (v_nckp lk19) pt20 ?_
      refine s_val rfl (v_fap0 lk20) pt21 ?_
      refine s_val rfl (v_loadp lk21 (hga hn rfl) gt2) pt22 ?_
      refine s_val rfl (v_mv lk5) pt23 ?_
      refine s_eff rfl rfl (e_lit (LineB_split_18 (cvl lk23 rfl) rfl) (hl4 hn) ha4) pt24 ?_
      refine s_eff rfl rfl (e_app (sc_own lk24 (hga hn rfl) rfl LineB_tk_1 (Nat.le_of_ble_eq_true rfl)) lk22 (hga hn rfl) (str_len _) (by omega) rfl (hs3 hn)) pt25 ?_
      refine s_val rfl (v_nckp lk18) pt26 ?_
      refine s_val rfl (v_fap0 lk26) pt27 ?_
      refine s_eff rfl rfl (e_store lk27 (cvl lk25 rfl) (hga hn rfl) rfl (Nat.le_of_ble_eq_true rfl) rfl LineB_sc2_1 (hs2 hn)) ptn ?_
      refine s_nil ?_
      refine n_seq ?_
      refine w_seq ?_
      refine w_reg ?_
      refine s_val rfl (v_mv lk5) pt28 ?_
      refine s_val rfl (v_lenS lk28) pt29 ?_
      refine s_val rfl (v_gtr lk29 lki) pt30 ?_
      refine s_val rfl (v_mv lk30) pt31 ?_
      first | refine s_splitP gt31 pt31 pt31 (fun hg31 => ?_) (fun hg31 => ?_) | refine s_splitB gt31 pt31 pt31 (fun hg31 => ?_) (fun hg31 => ?_)
      · skip
        rw [hcs] at hg31; rw [fldsT_many hc1 hy (.inl (by omega))] at hi3
        refine s_no gt31 pt32 ?_
        refine s_no gt31 pt33 ?_
        refine s_no gt31 pt34 ?_
        refine s_no gt31 pt35 ?_
        refine s_no gt31 pt36 ?_
        refine s_no gt31 pt37 ?_
        refine s_val rfl (v_pickT lk31 lkb) pt38 ?_
        refine s_nil ?_
        refine n_seq ?_
        refine w_condT lk38 ?_
        refine w_reg ?_
        refine s_callPan' (mp1 lki mp0) (lnfail_a) ?_
        refine p_blk ?_
        refine p_thn ?_
        refine p_thn ?_
        refine p_blk ?_
        refine p_thn ?_
        refine door_pan (adefS_p (hga hn rfl) (hga hn rfl) (by omega) ?_)
        rw [hs0 hn, hs1 hn]
        exact ⟨_, rsn (rm1 (rr_c gt2 (hga hn rfl) (ld0 gt0)) (rm1 (rr_c gt3 (hga hn rfl) (ld0 gt0)) rm0)), _, rfl, rfl, by rw [hi3]; rfl⟩
      · skip
        rw [hcs] at hg31
        refine s_do gt31 ?_
        refine s_val rfl (v_mv lk4) pt32 ?_
        refine s_do gt31 ?_
        refine s_val rfl (v_nckp lk32) pt33 ?_
        refine s_do gt31 ?_
        refine s_val rfl (v_fap0 lk33) pt34 ?_
        refine s_do gt31 ?_
        refine s_val rfl (v_loadp lk34 (hga hn rfl) gt2) pt35 ?_
        refine s_do gt31 ?_
        refine s_val rfl (v_lenO lk35) pt36 ?_
        refine s_do gt31 ?_
        refine s_val rfl (v_gtr lk36 lki) pt37 ?_
        refine s_val rfl (v_pickF lk31 lk37) pt38 ?_
        refine s_nil ?_
        refine n_seq ?_
        first | refine w_cond lk38 (fun hc2 => ?_) (fun hc2 => ?_) | refine w_condB lk38 (fun hc2 => ?_) (fun hc2 => ?_)
        · skip
          rw [fldsT_many hc1 hy (.inr (by omega))] at hi3
          refine w_reg ?_
          refine s_callPan' (mp1 lki mp0) (lnfail_a) ?_
          refine p_blk ?_
          refine p_thn ?_
          refine p_thn ?_
          refine p_blk ?_
          refine p_thn ?_
          refine door_pan (adefS_p (hga hn rfl) (hga hn rfl) (by omega) ?_)
          rw [hs0 hn, hs1 hn]
          exact ⟨_, rsn (rm1 (rr_c gt2 (hga hn rfl) (ld0 gt0)) (rm1 (rr_c gt3 (hga hn rfl) (ld0 gt0)) rm0)), _, rfl, rfl, by rw [hi3]; rfl⟩
        · skip
          obtain ⟨m', rfl⟩ : ∃ m', m = m' + 1 := ⟨m - 1, by omega⟩
          rw [fldsT_at hc1 hy (by omega)] at hi3
          have hsk := skipN_le ((aB s).drop (k + y.2.2))
          rw [List.length_drop, aB_len] at hsk
          refine w_skip ?_
          refine n_blk ?_
          refine n_seq ?_
          refine w_reg ?_
          refine s_val rfl (v_mv lk4) pt14 ?_
          refine s_calls (mp1 lk14 (mp1 lkf mp0)) (lnrun_a (fun _ _ => lnblank_a) (runL_blk _) (hga hn rfl) (by simp [AV.lt] <;> omega) (by omega) hz) (hs2 hn) pt15 ?_
          refine s_nil ?_
          refine n_thn ?_
          refine LoopTo.mk (⟨k + y.2.2 + skipN ((aB s).drop (k + y.2.2)), fs ++ [cutF ((aB s).drop k) y], v + 1, m'⟩) (by exact Nat.lt_succ_self _) (by (try dsimp only); exact ⟨by omega, by simp; omega, hi3⟩) (by (try dsimp only); (try simp only [setsT, setsE, List.set_cons_zero, List.set_cons_succ]); exact ALe.back (wk1 rfl (wk1 rfl (wk1 rfl (wk1 rfl (wk1 rfl (wka (wk1 rfl (wk1 rfl (wk1 rfl (wk1 rfl (wk1 rfl (wk1 rfl (wka (wka (wka (wka (wka (wka (wka (wka (wka (wka (wka (wka (wka (wka (wka (wka (wka (wka (wka (wka (wka (wka (wka (wka (wka (wka (wka (wka (wk1 rfl (wk1 rfl (wk1 rfl (wk1 rfl wk0)))))))))))))))))))))))))))))))))))))))))))) (by simp only [rows_app, rows_one, strC, List.length_append, List.length_singleton]; rfl) (k := N + 4) (by simp only [List.length_cons, List.length_nil, hn]) (by omega) (by first | rfl | (simp only [AV.lt, AV.ltL, Ent.lt, List.all_cons, List.all_nil, Bool.and_true, Bool.and_self, decide_true, str_lt]; done) | (simp [AV.lt, AV.ltL, Ent.lt, str_lt, *]; done) | (simp [AV.lt, AV.ltL, Ent.lt, str_lt, *]; omega)) (ltw (by omega) hlt) (by first | rfl | (simp only [AV.lt, AV.ltL, Ent.lt, List.all_cons, List.all_nil, Bool.and_true, Bool.and_self, decide_true, str_lt]; done) | (simp [AV.lt, AV.ltL, Ent.lt, str_lt, *]; done) | (simp [AV.lt, AV.ltL, Ent.lt, str_lt, *]; omega)))
    · skip
      have hy := no_some hs10
      rw [fldsT_bad hc1 hy] at hi3
      refine s_callPanX (mp1 lk16 mp0) (lnfield_p hy (hga hn rfl) (by simp [AV.lt] <;> omega) hm.1 hz) (fun hP_ hPp_ => ?_)
      refine p_thn ?_
      refine p_blk ?_
      refine p_thn ?_
      refine p_thn ?_
      refine p_blk ?_
      refine p_thn ?_
      obtain ⟨m', rfl⟩ := hPp_
      rw [hs2 hn]
      refine door_pan (adefS_p (hga hn rfl) (hga hn rfl) (by omega) ?_)
      rw [hs0 hn, hs1 hn]
      exact ⟨_, rsn (rm1 (rr_c gt2 (hga hn rfl) (ld0 gt0)) (rm1 (rr_c gt3 (hga hn rfl) (ld0 gt0)) rm0)), _, rfl, rfl, by rw [hi3]; rfl⟩
  · skip
    rw [fldsT_no hc1] at hi3
    refine w_exit ?_
    refine x_thn ?_
    refine x_thn ?_
    refine x_blk ?_
    refine n_seq ?_
    refine w_seq ?_
    refine w_reg ?_
    refine s_val rfl (v_mv lk4) pt40 ?_
    refine s_val rfl (v_nckp lk40) pt41 ?_
    refine s_val rfl (v_fap0 lk41) pt42 ?_
    refine s_val rfl (v_loadp lk42 (hga hn rfl) gt2) pt43 ?_
    refine s_eff rfl rfl (e_store lk2 (cvl lk43 rfl) (hga hn rfl) rfl (Nat.le_of_ble_eq_true rfl) rfl LineB_sc0_1 (hs0 hn)) ptn ?_
    refine s_eff rfl rfl (e_store lk3 (cvl lki rfl) (hga hn rfl) rfl (Nat.le_of_ble_eq_true rfl) rfl LineB_sc0_1 (hs1 hn)) ptn ?_
    refine s_nil ?_
    refine n_seqw (ALe.iceCellR (hga hn rfl) (hga hn rfl) (by omega) gt0 (List.take_of_length_le (by rw [rows_len str_len1]; first | exact Nat.le_refl _ | omega)) (by rw [rows_len str_len1]; first | exact Nat.le_refl _ | omega) pt0 (hs3 hn) (hs0 hn)) ?_
    refine w_rets ?_
    refine door_ret (adefS_r ⟨_, rsn (rm1 (rr_c gt2 (hga hn rfl) (ld0 gt0)) (rm1 (rr_c gt3 (hga hn rfl) (ld0 gt0)) rm0)), _, rfl, ?_, ?_⟩)
    simp [AE.lt, AV.lt, AV.ltL, str_lt]
    rw [hi3]
end Go.Proofs.YtgjchdhdopgkkaaDoor
