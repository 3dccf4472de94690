/-
  Contract on plain data: local.shifts. Condition: the table is right.
-/
import Derived.Test.YtmbebimingkfeaaLMap
import Derived.Test.YtmbebimingkfeaaASame
import Derived.Test.YtmbebimingkfeaaWPlain
set_option linter.unusedVariables false
set_option linter.unusedSimpArgs false
set_option maxRecDepth 100000
namespace Go.Proofs.Ytmbebimingkfeaa
open Go.Ab Go.Sort Civ
theorem chs_of_repC {w : World} {g : Gh} {l : List Chg} {b off : Nat} (hb : b < w.heap.size) (h : RepC w g (rows chgC l) b off) : Chs w w.heap.size (some ⟨b, off, none⟩) l := by
  intro h0
  refine ⟨b, off, rfl, hb, fun k hk => ?_⟩
  have h1 := (h.drop (k * 4)).take 4
  rw [rows_at chg_len1 hk] at h1
  simp only [RepC, Rep] at h1
  obtain ⟨⟨u0, c0, rfl⟩, ⟨u1, c1, rfl⟩, ⟨u2, c2, rfl⟩, ⟨u3, c3, rfl⟩, _⟩ := h1
  exact ⟨c0, c1, c2, c3⟩
def dd : List Int → List Int
  | [] => []
  | a :: l => if a ∈ dd l then dd l else a :: dd l
theorem mem_dd : ∀ {l : List Int} {x : Int}, x ∈ dd l ↔ x ∈ l
  | [], x => by simp [dd]
  | a :: l, x => by
    unfold dd
    split
    · rename_i h
      rw [mem_dd, List.mem_cons]
      refine ⟨.inr, fun e => e.elim (fun e => ?_) id⟩
      subst e
      exact mem_dd.1 h
    · rw [List.mem_cons, List.mem_cons, mem_dd]
theorem dd_nodup : ∀ l : List Int, (dd l).Nodup
  | [] => List.nodup_nil
  | a :: l => by
    unfold dd
    split
    · exact dd_nodup l
    · rename_i h; exact List.nodup_cons.2 ⟨h, dd_nodup l⟩
theorem sortI_perm {l l' : List Int} (h : l.Perm l') : sortI l = sortI l' := by
  have tr : ∀ a b c : Int, decide (a ≤ b) = true → decide (b ≤ c) = true → decide (a ≤ c) = true := fun a b c h1 h2 => by simp only [decide_eq_true_eq] at *; omega
  have to : ∀ a b : Int, (decide (a ≤ b) || decide (b ≤ a)) = true := fun a b => by simp only [Bool.or_eq_true, decide_eq_true_eq]; omega
  refine List.Perm.eq_of_pairwise (le := fun a b : Int => decide (a ≤ b) = true) (fun a b _ _ h1 h2 => ?_) (List.pairwise_mergeSort tr to l) (List.pairwise_mergeSort tr to l') (((List.mergeSort_perm l _).trans h).trans (List.mergeSort_perm l' _).symm)
  simp only [decide_eq_true_eq] at h1 h2
  omega
/-- a table's shifts, each once, rising -/
def shI (t : Tab) : List Int := sortI (dd (t.1.1 :: t.2.map (·.2.1)))
theorem shI_of {t : Tab} {ss : List Int} (h1 : ss.Nodup) (h2 : ∀ x, x ∈ ss ↔ inL t t.2.length x) : sortI ss = shI t := by
  refine sortI_perm ((List.perm_ext_iff_of_nodup h1 (dd_nodup _)).2 fun x => ?_)
  rw [h2, mem_dd]
  unfold inL
  rw [List.take_of_length_le (Nat.le_refl _)]
  simp
theorem wf_of {n : Int} (h1 : -9223372036854775808 ≤ n) (h2 : n ≤ 9223372036854775807) : (Lit.int .i64 n).wf = true := by
  have e1 : IntKind.i64.min = -9223372036854775808 := by decide
  have e2 : IntKind.i64.max = 9223372036854775807 := by decide
  simp only [Lit.wf, Bool.and_eq_true, decide_eq_true_eq, e1, e2]
  exact ⟨h1, h2⟩
theorem shifts_a {t : Tab} {full : Bool} {h : AH} (hv : checkT t = 0) :
    ACalls Try.prog 73 [.agg [iv t.1.1, iv t.1.2.1, sv t.1.2.2, .sl t.2.length 4 full (rows chgC t.2)]] h fun x h' => h' = h ∧ x = .ret (.sl (shI t).length 1 false (rows intC (shI t))) := by
  obtain ⟨hv1, hv2, hv3⟩ := checkT_all hv
  refine ⟨by kernel_rfl, fun w g vs hs ha => ?_⟩
  simp only [RepL, Rep] at ha
  obtain ⟨val, us, e, ⟨as1, rfl, u1, us1, ea1, rfl, u2, us2, rfl, rfl, u3, us3, rfl, rfl, u4, us4, rfl, ⟨hcl, A, cap, rfl, g1, g2, g3, g4, g5⟩, rfl⟩, rfl⟩ := ha
  obtain rfl : vs = #[.agg as1] := by cases vs; simp_all
  obtain rfl : as1 = #[.int .i64 t.1.1, .int .i64 t.1.2.1, .string t.1.2.2, .slice A t.2.length cap] := by cases as1; simp_all
  have hc : Chs w w.heap.size A t.2 := by
    intro h0
    obtain ⟨b, off, rfl, hd, hr⟩ := g5 (by intro e; have := congrArg List.length e; rw [chg_len] at this; simp only [List.length_nil] at this; omega)
    exact chs_of_repC (hs.lt _ hd) hr h0
  have hw1 := locE_ok hv2
  refine (shifts_walk t A cap w hv1 (wf_of (by omega) (by omega)) (fun k hk => by have := locE_ok (hv3 _ (List.getElem_mem hk)).2; exact wf_of (by omega) (by omega)) hc).mono ?_
  rintro e w' ⟨v, ss, rfl, hnd, hmem, ⟨B, hB, hrow⟩, hbw⟩
  have hsh := shI_of hnd hmem
  have hlen : ss.length = (shI t).length := by rw [← hsh, sortI_len]
  rw [hsh, hlen] at hrow
  rcases hrow.2 with ⟨hnil, hn0⟩ | ⟨b, cap', cur, rfl, hbase, hb, k1, k2, k3, k4⟩
  · exfalso
    have : t.1.1 ∈ ss := (hmem _).2 (.inl rfl)
    rw [List.eq_nil_of_length_eq_zero (hlen.trans hn0)] at this
    simp at this
  have hbl : w.heap.size ≤ b := Nat.le_trans hB hbase
  have hb' : b < w'.heap.size := (Array.getElem?_eq_some_iff.1 hb).1
  let g' : Gh := ⟨fun k => g.D k ∨ k = b, g.loc⟩
  have hle : g.le g' := ⟨fun _ h => .inl h, fun _ _ _ h => h⟩
  have hold : ∀ k, k < w.heap.size → w'.heap[k]? = w.heap[k]? := fun k hk => hbw.block k hk
  have hs' : SimH w' g' h := by
    refine ⟨?_, fun i j k h1 h2 => hs.inj i j k h1 h2, ?_, fun id ver l hl => hs.fresh id ver l hl, fun id ver l hl => hs.free id ver l hl⟩
    · intro id ver ty st cells he
      obtain ⟨A0, cap0, f1, f2, f3⟩ := hs.ent id ver ty st cells he
      refine ⟨A0, cap0, f1, f2, f3.mono hle ?_ (fun k hk => hold k (hs.lt k hk)) ?_⟩
      · intro k hk h0 hd
        rcases hd with hd | rfl
        · exact hd
        · have := (hs.own_not_D (k := k) ⟨id, by
            obtain ⟨a0, ea, rfl⟩ := Option.map_eq_some_iff.1 hk
            exact ⟨ver, ty, st, cells, a0, cap0, he, by rw [f1, ea], h0, rfl⟩⟩).2
          omega
      · intro k hk h0
        refine hold k (hs.own_not_D (k := k) ⟨id, ?_⟩).2
        obtain ⟨a0, ea, rfl⟩ := Option.map_eq_some_iff.1 hk
        exact ⟨ver, ty, st, cells, a0, cap0, he, by rw [f1, ea], h0, rfl⟩
    · rintro k (hk | rfl)
      · exact Nat.lt_of_lt_of_le (hs.lt k hk) hbw.size
      · exact hb'
  refine ⟨.ret (.sl (shI t).length 1 false (rows intC (shI t))), h, g', ?_, hs', hle, ⟨hbw.os, hbw.tape, hbw.output, hbw.size, fun k hk _ => hold k hk⟩, fun k hk => .inl hk, rfl, rfl⟩
  simp only [EndR, Rep]
  refine ⟨int_len _, _, _, rfl, k1, k2, (fun h => by simp at h), (fun h => by simp at h), fun _ => ⟨b, 0, rfl, .inr rfl, RepC.of_row hb _ 0 ?_⟩⟩
  rw [List.drop_zero, int_len, k4]
  exact repL_ints.2 rfl
end Go.Proofs.Ytmbebimingkfeaa
