/-
  local.shifts: what it makes of a table's changes, said of cells. Conditions: there are at most a thousand changes; each shift is an int.
-/
import Derived.Test.YtmbebimingkfeaaLSort
import Derived.WalkKit
import Derived.Maps.OwnOps
import Derived.Maps.RangeWalk
import Derived.Maps.Views
import Derived.Sort.KeysCollected
import Derived.Deep.LoopGhost
import Derived.WalkSpells
import Derived.WalkLawsBesides
import Derived.Lib.Hide
set_option linter.unusedVariables false
set_option linter.unusedSimpArgs false
set_option maxRecDepth 100000
namespace Go.Proofs.Ytmbebimingkfeaa
open Go.RowKit Go.Maps Go.Sort Civ
/-- the changes lie where the slice says, below block B -/
def Chs (w : World) (B : Nat) (A : Option Addr) (l : List Chg) : Prop :=
  0 < l.length → ∃ b off, A = some ⟨b, off, none⟩ ∧ b < B ∧ ∀ k (h : k < l.length),
    w.cell? ⟨b, off + k * 4, none⟩ = some (.int .i64 l[k].1) ∧ w.cell? ⟨b, off + k * 4 + 1, none⟩ = some (.int .i64 l[k].2.1) ∧
    w.cell? ⟨b, off + k * 4 + 2, none⟩ = some (.int .i64 l[k].2.2.1) ∧ w.cell? ⟨b, off + k * 4 + 3, none⟩ = some (.string l[k].2.2.2)
def tv (t : Tab) (A : Option Addr) (c : Nat) : Value := .agg #[.int .i64 t.1.1, .int .i64 t.1.2.1, .string t.1.2.2, .slice A t.2.length c]
theorem law3 : Keyed Try.prog 3 := int_keyed Try.underlying3
theorem zero3 (w : World) : (zeroValue 3).run Try.prog w = .ok (.int .i64 0) w := by kernel_rfl
/-- in l, or the first -/
def inL (t : Tab) (k : Nat) (x : Int) : Prop := x = t.1.1 ∨ ∃ c ∈ t.2.take k, c.2.1 = x
theorem wpList_insert_own {H : Type} {P : Program} (w : World) {ops : Array Oper} {rest : List Oper} {o : Oper} {a : Act} {Q : Exit → Act → World → Prop}
    (hg : o.guard = none) (m x v : Operand) (t : TypeId) (hop : o.op = Op.insert t m x v)
    (k e : TypeId) (K : Keyed P k) (ht : P.underlying t = some (.map k e)) (R : Value → Option (DataW H × List MemPlace)) (b n : Nat) (D : DataW H)
    (hm : a.eval m = .map (some b)) (hown : w.ownsMap P k R b n D) (hn : n < maxLen) (key val : Value) (kl : Lit) (hx : a.eval x = key) (hv : a.eval v = val) (hkey : keyOf P k key = some kl)
    (d : DataW H) (ps : List MemPlace) (hval : R val = some (d, ps))
    (hK : ∀ w', w'.ownsMap P k R b (n + 1) (D.put kl d) → w.grownBy w' (some b) → wpList P ops Q rest (a.put o.dst undef) w') :
    wpList P ops Q (o :: rest) a w := by
  refine wpList_plain hg fun K' hK' => ?_
  obtain ⟨w', hrun, r1, r2⟩ := hown.update K ht hn hkey hval
  unfold Oper.wp
  simp [execOp, hop, hm, hx, hv, hrun, Result.andThen]
  exact hK' _ _ (hK w' r1 r2)
theorem has_put_int {H : Type} {D : DataW H} (hD : IsMap D) (y : Int) (d : DataW H) (x : Int) : has (D.put (.int .i64 y) d) (.int .i64 x) = true ↔ (has D (.int .i64 x) = true ∨ x = y) := by
  by_cases h : x = y
  · subst h
    simp [has_put_same hD (k := .int .i64 x) trivial d]
  · rw [has_put_other (by simpa using h)]
    simp [h]
theorem inL_zero {t : Tab} {x : Int} : inL t 0 x ↔ x = t.1.1 := by simp [inL]
theorem inL_succ {t : Tab} {k : Nat} (hk : k < t.2.length) {x : Int} : inL t (k + 1) x ↔ (inL t k x ∨ x = t.2[k].2.1) := by
  unfold inL
  rw [List.take_succ_eq_append_getElem hk]
  simp only [List.mem_append, List.mem_singleton]
  constructor
  · rintro (h | ⟨c, h | h, e⟩)
    · exact .inl (.inl h)
    · exact .inl (.inr ⟨c, h, e⟩)
    · subst h; exact .inr e.symm
  · rintro ((h | ⟨c, h, e⟩) | h)
    · exact .inl h
    · exact .inr ⟨c, .inl h, e⟩
    · exact .inr ⟨_, .inr rfl, h.symm⟩
/-- the keys met so far -/
def CollI (D0 : DataW Unit) (left : Lit → Bool) (ss : List Int) : Prop := ss.Nodup ∧ ∀ x, x ∈ ss ↔ (has D0 (.int .i64 x) = true ∧ left (.int .i64 x) = false)
theorem CollI.start (D0 : DataW Unit) : CollI D0 (has D0) [] := ⟨List.nodup_nil, fun x => by cases has D0 (.int .i64 x) <;> simp⟩
theorem CollI.step {D0 : DataW Unit} {left : Lit → Bool} {ss : List Int} (h : CollI D0 left ss) {x : Int} {y : DataW Unit} (hlk : left (.int .i64 x) = true) (hat : ∀ zd, D0.atKey (.int .i64 x) zd = y) : CollI D0 (fun z => left z && !z.sameKey (.int .i64 x)) (ss ++ [x]) := by
  have hhas : has D0 (.int .i64 x) = true := has_true_of_atKey hat
  have hnew : x ∉ ss := fun hx => by have := ((h.2 x).1 hx).2; rw [hlk] at this; cases this
  refine ⟨List.nodup_append.2 ⟨h.1, by simp, fun a ha b hb => by simp at hb; subst hb; exact fun e => hnew (e ▸ ha)⟩, fun y => ?_⟩
  by_cases hy : y = x
  · subst hy; simp [hhas, Lit.sameKey]
  · simp [h.2 y, hy, Lit.sameKey]
set_option maxHeartbeats 2000000 in
theorem shifts_walk (t : Tab) (A : Option Addr) (c : Nat) (w : World) (hl : t.2.length ≤ 1000) (h0 : (Lit.int .i64 t.1.1).wf = true) (hwf : ∀ k (h : k < t.2.length), (Lit.int .i64 t.2[k].2.1).wf = true) (hc : Chs w w.heap.size A t.2) :
    Calls Try.prog 73 #[tv t A c] w fun e w' => ∃ (v : Value) (ss : List Int), e = .returned v ∧ ss.Nodup ∧ (∀ x, x ∈ ss ↔ inL t t.2.length x) ∧ (∃ B, w.heap.size ≤ B ∧ w'.ownsRow B 3 1 v ss.length ((sortI ss).map (Value.int .i64))) ∧ Below w.heap.size w w' := by
  obtain ⟨⟨sh, sv, nm⟩, l⟩ := t
  dsimp only [tv] at *
  obtain ⟨i0, hi, hz0, hz1, hz2⟩ := info_parts (show (Try.prog.info? 3).map (fun i => (i.zero, i.size, i.bytes)) = some (some (.int .i64 0), 1, 8) from by kernel_rfl)
  have hmm := @run_makeMap Try.prog
  have hm0 := World.ownsMap_made (H := Unit) (w.alloc (.cells #[.int .i64 sh, .int .i64 sv, .string nm, .slice A l.length c] 26)) Try.prog 3 (plainElem Try.prog 3)
  obtain ⟨w1, hrun1, hown1, hgrow1⟩ := hm0.update (t := 115) (key := .int .i64 sh) (val := .int .i64 1) law3 Try.underlying115 (by decide) (keyOf_int_mk Try.underlying3 h0) (plainElem_int Try.underlying3 (show (Lit.int .i64 1).wf = true by decide))
  simp only [World.size_alloc] at hown1 hgrow1 hrun1
  have hb1 : Below (w.heap.size + 1) (w.alloc (.cells #[.int .i64 sh, .int .i64 sv, .string nm, .slice A l.length c] 26)) w1 := ((Below.refl _ _).alloc (by simp) _).grown hgrow1 (by simp) (fun j hj => by cases hj; exact Nat.le_refl _)
  have bx3 : w1.cell? ⟨w.heap.size, 3, none⟩ = some (.slice A l.length c) := (hb1.cell (by simp)).trans (by simp)
  go_enter Try.func73, Try.ntmps73
  go_wp2_with fail
  go_loopw [16] (fun i wr => ∃ (k : Nat) (D : DataW Unit), k ≤ l.length ∧ i = .int .i64 k ∧ wr.ownsMap Try.prog 3 (plainElem Try.prog 3) (w.heap.size + 1) (k + 1) D ∧ (∀ x, has D (.int .i64 x) = true ↔ inL ((sh, sv, nm), l) k x) ∧ Below (w.heap.size + 1) (w.alloc (.cells #[.int .i64 sh, .int .i64 sv, .string nm, .slice A l.length c] 26)) wr)
    (fun i _ => l.length - (intOf i).toNat)
  case atStart => exact ⟨0, _, Nat.zero_le _, rfl, hown1, fun x => by rw [has_put_int ⟨_, rfl⟩, inL_zero]; simp [has], hb1⟩
  case round =>
    obtain ⟨k, D, hk, rfl, hown, hD, hnx⟩ := hrel
    by_cases hlt : k < l.length
    · obtain ⟨b, off, hA, hbw, hcc⟩ := hc (by omega)
      subst hA
      obtain ⟨e0, e1, e2, e3⟩ := hcc k hlt
      have hw2 := hwf k hlt
      have up : ∀ p : Addr, p.block < w.heap.size → wr.cell? p = w.cell? p := fun p hp => (hnx.cell (Nat.lt_succ_of_lt hp)).trans (((Below.refl w.heap.size w).alloc (Nat.le_refl _) _).cell hp)
      replace e0 := (up _ hbw).trans e0
      replace e1 := (up _ hbw).trans e1
      replace e2 := (up _ hbw).trans e2
      replace e3 := (up _ hbw).trans e3
      have hsz := hnx.size
      simp only [World.size_alloc] at hsz
      have hstep : ∀ x, inL ((sh, sv, nm), l) (k + 1) x ↔ (inL ((sh, sv, nm), l) k x ∨ x = l[k].2.1) := fun x => inL_succ (t := ((sh, sv, nm), l)) (k := k) hlt
      clear up hcc
      generalize hx : l[k] = x at *
      obtain ⟨ca, cs, cv, cn⟩ := x
      dsimp only at e0 e1 e2 e3 hw2 hstep
      have HX := Lib.hid hx; clear hx
      go_wp2_with (first
        | (at_lookup; refine wpList_lookup_own_int _ rfl _ _ 115 rfl 3 3 .i64 law3 Try.underlying115 Try.underlying3 (zero3 _) (w.heap.size + 1) (k + 1) _ rfl (hown.alloc _) _ _ rfl (keyOf_int_mk Try.underlying3 hw2) ?_; intro cc hat hwc)
        | (at_mapUpdate; refine wpList_mapUpdate_own _ rfl _ _ _ 115 rfl 3 3 law3 Try.underlying115 _ (w.heap.size + 1) (k + 1) _ rfl (hown.alloc _) (by unfold maxLen; omega) _ _ _ rfl rfl (keyOf_int_mk Try.underlying3 hw2) _ [] (plainElem_int Try.underlying3 (wrap64_wf _)) ?_; intro w3 hown3 hgrow3)
        | go_in)
      go_roundw
      case rel => exact ⟨k + 1, _, by omega, by go_num, hown3, fun x => by rw [has_put_int hown.isMap, hD x, hstep x], (hnx.alloc (by omega) _).grown hgrow3 (by simp; omega) (fun j hj => by cases hj; exact Nat.le_refl _)⟩
      case measure => simp [intOf]; omega
    · have hkl : k = l.length := by omega
      subst hkl
      have hsz := hnx.size
      simp only [World.size_alloc] at hsz
      have hbl := hown.lt
      have hsd := hown.size_le
      have hnw : Below w.heap.size w wr := ((Below.refl w.heap.size w).alloc (Nat.le_refl _) _).trans (hnx.mono (Nat.le_succ _))
      go_wp2_with (first
        | (at_range; refine wpList_range_own _ rfl _ 115 rfl 3 3 law3 Try.underlying115 _ (w.heap.size + 1) (l.length + 1) _ rfl hown ?_; intro w4 hrg0 hg0 hs0)
        | go_in)
      go_frame
      have hn4 : Below w.heap.size w w4 := hnw.grown hg0 hnw.size (fun j hj => by cases hj)
      generalize hRe : wr.heap.size = R at *
      go_loopw [6] (fun v wx => ∃ (left : Lit → Bool) (cnt : Nat) (ss : List Int), wx.ranges Try.prog 3 (plainElem Try.prog 3) (w.heap.size + 1) R (l.length + 1) D left cnt ∧ ss.length + cnt ≤ Maps.size D ∧
          wx.ownsRow R 3 1 v ss.length (ss.map (Value.int .i64)) ∧ CollI D left ss ∧ Below w.heap.size w wx ∧ R ≤ wx.heap.size)
        (fun _ wx => wx.rangeLeft (w.heap.size + 1) R)
      case atStart => exact ⟨_, _, [], hrg0, by simp, World.ownsRow_nil _ _ _ _, CollI.start D, hn4, by omega⟩
      case round =>
        obtain ⟨left, cnt, ss, hrg, hcs, hrow, hC, hnx2, hRs⟩ := hrel
        go_wp2_with (first
          | (at_next; refine wpList_next_ranges_ii _ rfl _ rfl 3 3 .i64 .i64 law3 Try.underlying3 Try.underlying3 (w.heap.size + 1) R (l.length + 1) _ _ _ rfl hrg ?_ ?_)
          | go_in)
        · intro hc0 hl0
          have hmem : ∀ x, x ∈ ss ↔ inL ((sh, sv, nm), l) l.length x := fun x => by rw [hC.2 x, ← hD x, hl0]; simp
          rcases hrow.2 with ⟨hnil, hn0⟩ | ⟨g, cap, cur, hv, hbase, hb, h1, h2, h3, h4⟩
          · have : ss = [] := List.eq_nil_of_length_eq_zero hn0
            subst this
            exact absurd ((hmem sh).2 (.inl rfl)) (by simp)
          · subst hv
            have hH : Holds (Value.int .i64) wr g 0 ss.toArray := holds_of_blockI hb (by simpa using h4)
            have hgl : g < wr.heap.size := (Array.getElem?_eq_some_iff.1 hb).1
            have hcl := Try.slices_Sort_int g 0 cap ss wr hH hgl (by omega)
            go_wp2_with (go_at_call 74; refine hcl.mono ?_; rintro e w' ⟨rfl, nn, os, rfl⟩)
            go_ret
            exact ⟨_, ss, rfl, hC.1, hmem, ⟨R, by omega, ownsRow_sortedI (sortI_len ss) hbase hb h1 h2 h3⟩, hnx2.grown (grownBy_sortedI _) hnx2.size (fun j hj => by cases hj; omega)⟩
        · intro x cc w5 cnt2 hwx hwc hlk hat hrg2 hlt hg2 hs2 hen
          have hrow2 := hrow.kept hg2 (Or.inr (row_ne_iter hrow hrg).symm)
          clear hs2
          go_wp2_with (first
            | (at_builtin; refine wpList_append_own _ rfl _ _ 55 rfl R 3 i0 (.int .i64 0) 1 8 Try.underlying55 hi hz0 hz1 hz2 rfl (by decide) _ _ _ rfl (hrow2.alloc _) ⟨w5.heap.size, 0, none⟩ 1 1 [.int .i64 x] rfl rfl (cell_one_new _ _ _) (by simp [Value.oneCell']) (by unfold maxLen at *; omega) (by omega) (by have := hg2.size; simp; omega) ?_; intro v' w6 hown' hg3 hnil3)
            | go_in)
          have hrg3 := (hrg2.alloc _).kept hg3 (row_ne_low hrow2 (by omega)) (row_ne_iter hrow2 hrg2)
          go_roundw
          case rel =>
            refine ⟨_, cnt2, ss ++ [x], hrg3, by simp; omega, by simpa using hown', hC.step hlk hat, ?_, ?_⟩
            · exact ((hnx2.grown hg2 hnx2.size (fun j hj => by cases hj; omega)).alloc (by have := hnx2.size; have := hg2.size; omega) _).grown hg3 (by have := hnx2.size; have := hg2.size; simp; omega) (fun j hj => by have := (hrow2.lt j hj).1; omega)
            · have := hg2.size; have := hg3.size; simp at this; omega
          case measure => rw [hrg3.left_eq, hrg.left_eq]; exact hlt
end Go.Proofs.Ytmbebimingkfeaa
