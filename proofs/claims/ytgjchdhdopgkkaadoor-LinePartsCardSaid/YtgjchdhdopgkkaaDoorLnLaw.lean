/-
  Lines: what is joined is split as it was; what is split may be joined; two texts' lines, one behind the other. Plain lists, no program. No condition.
-/
import Derived.Test.YtgjchdhdopgkkaaDoorLnBegun
set_option linter.unusedVariables false
set_option linter.unusedSimpArgs false
set_option maxRecDepth 100000
namespace Go.Proofs.YtgjchdhdopgkkaaDoor
open Go.Ab
theorem runL_all {p : Int → Bool} : ∀ {l : Bs} {n : Nat}, runL p l = some n → ∀ c ∈ l.take n, p c.toNat = true ∧ plnN c.toNat = true
  | [], n, h, c, hc => by simp at hc
  | x :: l, n, h, c, hc => by
    unfold runL at h
    split at h
    · rename_i hp
      split at h
      · rename_i hq
        rw [Option.map_eq_some_iff] at h
        obtain ⟨m, hm, rfl⟩ := h
        rw [List.take_succ_cons] at hc
        rcases List.mem_cons.1 hc with rfl | hc
        · exact ⟨hp, hq⟩
        · exact runL_all hm c hc
      · cases h
    · cases h; simp at hc
theorem runL_app {p : Int → Bool} {b : Bs} (hb : runL p b = some 0) : ∀ {a : Bs}, (∀ c ∈ a, p c.toNat = true ∧ plnN c.toNat = true) → runL p (a ++ b) = some a.length
  | [], h => hb
  | c :: a, h => by
    have h1 := h c (by simp)
    rw [List.cons_append, runL, if_pos h1.1, if_pos h1.2, runL_app hb (fun x hx => h x (by simp [hx]))]
    rfl
theorem badN_iff {n : Int} : badN n = false ↔ plnN n = true ∧ n ≠ 34 := by
  unfold badN; simp
theorem fieldL_good {l : Bs} {x : Nat × Nat × Nat} (h : fieldL l = some x) : ∀ c ∈ (l.drop x.1).take x.2.1, badN c.toNat = false := by
  cases l with
  | nil => cases h
  | cons c l =>
    by_cases hc : (c.toNat : Int) = 34
    · rw [fieldL, if_pos hc] at h
      cases hr : runL quoP l with
      | none => rw [hr] at h; cases h
      | some n =>
        have := runL_all hr
        rw [hr] at h
        simp only at h
        split at h
        · cases h
        · split at h
          · cases h
          · cases h
            intro y hy
            have := this y (by simpa using hy)
            exact badN_iff.2 ⟨this.2, by have := this.1; unfold quoP at this; simpa using this⟩
    · rw [fieldL, if_neg hc] at h
      cases hr : runL fldP (c :: l) with
      | none => rw [hr] at h; cases h
      | some n =>
        have := runL_all hr
        rw [hr] at h
        simp only at h
        split at h
        · cases h
        · cases h
          intro y hy
          have := this y (by simpa using hy)
          exact badN_iff.2 ⟨this.2, by have := this.1; unfold fldP at this; simp at this; exact this.2⟩
theorem fieldE_zero {f : ByteArray} (h1 : ∀ c ∈ aB f, badN c.toNat = false) (h2 : f.size ≤ 24) : fieldE f = 0 := by
  unfold fieldE
  rw [if_neg, if_neg (by omega)]
  rw [List.any_eq_true]
  rintro ⟨c, hc, hb⟩
  rw [h1 c hc] at hb; cases hb
theorem fieldE_all {f : ByteArray} (h : fieldE f = 0) : (∀ c ∈ aB f, badN c.toNat = false) ∧ f.size ≤ 24 := by
  unfold fieldE at h
  split at h
  · cases h
  · rename_i h1
    split at h
    · cases h
    · refine ⟨fun c hc => ?_, by omega⟩
      cases hb : badN c.toNat
      · rfl
      · exact absurd (List.any_eq_true.2 ⟨c, hc, hb⟩) h1
theorem fldsL_good : ∀ {k : Nat} {acc : List ByteArray} {l : Bs}, (∀ f ∈ acc, fieldE f = 0) → acc.length ≤ 12 → (fldsL k acc l).2 = 0 → (∀ f ∈ (fldsL k acc l).1, fieldE f = 0) ∧ (fldsL k acc l).1.length ≤ 12
  | 0, acc, l, h1, h2, _ => ⟨h1, h2⟩
  | k + 1, acc, l, h1, h2, h3 => by
    rw [fldsL] at h3 ⊢
    split at h3
    · rename_i hm
      rw [if_pos hm]
      split at h3
      · cases h3
      · rename_i x hx
        split at h3
        · cases h3
        · rename_i hn
          rw [if_neg hn]
          refine fldsL_good (fun f hf => ?_) (by simp; omega) h3
          rcases List.mem_append.1 hf with hf | hf
          · exact h1 f hf
          · rw [List.mem_singleton] at hf
            subst hf
            refine fieldE_zero (fun c hc => fieldL_good hx c hc) ?_
            unfold cutF
            rw [bA_size, List.length_take]; omega
    · rename_i hm
      rw [if_neg hm]
      exact ⟨h1, h2⟩
theorem lineL_good {x : Bs} (h : (lineL x).2 = 0) (hne : (lineL x).1 ≠ []) : lineE (lineL x).1 = 0 := by
  obtain ⟨h1, h2⟩ := fldsL_good (k := 13) (acc := []) (l := x) (fun f hf => by simp at hf) (by simp) h
  unfold lineE
  have : 0 < (lineL x).1.length := List.length_pos_iff.2 hne
  rw [if_neg (by omega), if_neg (by show ¬ 12 < (fldsL 13 [] x).1.length; omega)]
  have : ∀ {fs : List ByteArray}, (∀ f ∈ fs, fieldE f = 0) → firstE fs = 0 := by
    intro fs
    induction fs with
    | nil => intro _; rfl
    | cons f fs ih =>
      intro h
      rw [firstE, if_neg (by rw [h f (by simp)]; simp)]
      exact ih fun g hg => h g (by simp [hg])
  exact this h1
/-- lines of which each may be joined -/
theorem joinE_all {l : List Ln} : joinE l = 0 ↔ ∀ x ∈ l, lineE x.2.2 = 0 := by
  induction l with
  | nil => simp [joinE]
  | cons x l ih =>
    rw [joinE]
    by_cases h : lineE x.2.2 = 0
    · rw [if_neg (by rw [h]; simp), ih]
      simp [h]
    · rw [if_pos h]
      constructor
      · intro e; exact absurd e h
      · intro e; exact e x (by simp)
theorem linesL_bad : ∀ {n : Int} {l : List Bs} {acc : List Ln}, (linesL n l acc).2.2 ≠ 0 → (linesL n l acc).1 = []
  | n, [], acc, h => absurd rfl h
  | n, x :: xs, acc, h => by
    rw [linesL] at h ⊢
    split at h
    · rename_i h1; rw [if_pos h1]
    · rename_i h1; rw [if_neg h1]; exact linesL_bad h
theorem splitL_bad {s : ByteArray} (h : (splitL s).2.2 ≠ 0) : (splitL s).1 = [] := by
  unfold splitL at h ⊢
  split at h
  · rename_i h1; rw [if_pos h1]
  · rename_i h1
    rw [if_neg h1]
    split at h
    · rename_i h2; rw [if_pos h2]; exact linesL_bad h2
    · rename_i h2
      rw [if_neg h2]
      split at h
      · rename_i h3; rw [if_pos h3]
      · exact absurd (Decidable.of_not_not h2) h
theorem linesL_good : ∀ {n : Int} {l : List Bs} {acc : List Ln}, (∀ x ∈ acc, lineE x.2.2 = 0) → ∀ x ∈ (linesL n l acc).1, lineE x.2.2 = 0
  | n, [], acc, h => h
  | n, y :: ys, acc, h => by
    rw [linesL]
    split
    · intro x hx; simp at hx
    · rename_i h1
      refine linesL_good fun x hx => ?_
      split at hx
      · exact h x hx
      · rename_i h2
        rcases List.mem_append.1 hx with hx | hx
        · exact h x hx
        · rw [List.mem_singleton] at hx
          subst hx
          exact lineL_good (Decidable.of_not_not h1) h2
theorem splitL_good {s : ByteArray} : ∀ x ∈ (splitL s).1, lineE x.2.2 = 0 := by
  have := linesL_good (n := 1) (l := cutC 10 (aB s)) (acc := []) (fun x hx => by simp at hx)
  unfold splitL
  split
  · intro x hx; simp at hx
  · split
    · exact this
    · split
      · intro x hx; simp at hx
      · exact this
theorem join_split {s : ByteArray} (h : (joinV (splitL s).1).2 ≠ 0) : (joinV (splitL s).1).2 = 2 := by
  have hE : joinE (splitL s).1 = 0 := joinE_all.2 splitL_good
  unfold joinV at h ⊢
  split
  · rfl
  · rename_i h1
    rw [if_neg h1, if_neg (by rw [hE]; simp)] at h
    rw [if_neg (by rw [hE]; simp)]
    split at h
    · rename_i h2; rw [if_pos h2]
    · exact absurd rfl h
/-! ### what is joined -/
def txt (f : ByteArray) : Bs := aB (textB f)
theorem txt_q {f : ByteArray} (h : quoB f = true) : txt f = 34 :: (aB f ++ [34]) := by
  unfold txt textB
  rw [if_pos h, aB_app, aB_app, aB_bA]; rfl
theorem txt_f {f : ByteArray} (h : ¬ quoB f = true) : txt f = aB f := by unfold txt textB; rw [if_neg h]
/-- what may stand behind a field -/
def tailOk (t : Bs) : Prop := t = [] ∨ ∃ r, t = 32 :: r
theorem tail_more {t : Bs} (h : tailOk t) : (moreL t = true → blkN (headN t) = true ∧ headN t ≠ 34) ∧ ∀ p : Int → Bool, p 32 = false → runL p t = some 0 := by
  rcases h with rfl | ⟨r, rfl⟩
  · exact ⟨fun h => by simp [moreL] at h, fun p _ => rfl⟩
  · refine ⟨fun _ => ⟨rfl, by show ((32 : UInt8).toNat : Int) ≠ 34; decide⟩, fun p hp => ?_⟩
    rw [runL, if_neg]
    rw [show ((32 : UInt8).toNat : Int) = 32 from rfl, hp]; simp
theorem fieldL_txt {f : ByteArray} {t : Bs} (hf : fieldE f = 0) (ht : tailOk t) : ∃ o, fieldL (txt f ++ t) = some (o, f.size, (txt f).length) ∧ ((txt f ++ t).drop o).take f.size = aB f := by
  obtain ⟨h1, h2⟩ := fieldE_all hf
  obtain ⟨t1, t2⟩ := tail_more ht
  by_cases hq : quoB f = true
  · refine ⟨1, ?_, ?_⟩
    · rw [txt_q hq]
      have hr : runL quoP (aB f ++ 34 :: t) = some (aB f).length := runL_app (by rw [runL, if_neg (by decide)]) fun c hc => by
        have := badN_iff.1 (h1 c hc)
        exact ⟨by unfold quoP; simpa using this.2, this.1⟩
      have e : 34 :: (aB f ++ [34]) ++ t = 34 :: (aB f ++ 34 :: t) := by simp
      have hd : (aB f ++ 34 :: t).drop ((aB f).length + 1) = t := by
        rw [show (aB f ++ 34 :: t) = (aB f ++ [34]) ++ t by simp, List.drop_left' (by simp)]
      rw [e, fieldL, if_pos (by rfl), hr]
      simp only
      rw [if_neg (by simp), if_neg, aB_len]
      · simp [aB_len]
      · rw [hd]
        rintro ⟨a, b⟩
        rw [(t1 a).1] at b; cases b
    · rw [txt_q hq]
      simp [← aB_len]
  · have hq' : quoB f = false := by simpa using hq
    unfold quoB at hq'
    rw [Bool.or_eq_false_iff, decide_eq_false_iff_not] at hq'
    have hP : ∀ c ∈ aB f, fldP c.toNat = true ∧ plnN c.toNat = true := fun c hc => by
      have hb := badN_iff.1 (h1 c hc)
      have hn : quoN c.toNat = false := by
        cases hh : quoN c.toNat
        · rfl
        · have := List.any_eq_true (p := fun c : UInt8 => quoN c.toNat).2 ⟨c, hc, hh⟩
          rw [hq'.2] at this; cases this
      unfold quoN at hn
      rw [Bool.or_eq_false_iff, decide_eq_false_iff_not] at hn
      exact ⟨fldP_of hn.1 hn.2 hb.2, hb.1⟩
    refine ⟨0, ?_, ?_⟩
    · rw [txt_f hq]
      have hr : runL fldP (aB f ++ t) = some (aB f).length := runL_app (t2 _ (by decide)) hP
      cases hl : aB f with
      | nil => exact absurd (by rw [← aB_len, hl]; rfl) hq'.1
      | cons c l =>
        have hc := hP c (by rw [hl]; simp)
        have hc34 : (c.toNat : Int) ≠ 34 := by have := hc.1; unfold fldP at this; simp at this; exact this.2
        rw [← hl]
        have e : aB f ++ t = c :: (l ++ t) := by rw [hl]; rfl
        rw [e, fieldL, if_neg hc34, ← e, hr]
        simp only
        rw [if_neg, aB_len]
        rw [List.drop_left' rfl]
        rintro ⟨a, b⟩
        exact (t1 a).2 b
    · rw [txt_f hq, List.drop_zero, List.take_left' (aB_len f)]
theorem txt_head {f : ByteArray} (hf : fieldE f = 0) : ∃ c r, txt f = c :: r ∧ blkN c.toNat = false ∧ (c.toNat : Int) ≠ 35 := by
  by_cases hq : quoB f = true
  · exact ⟨34, _, txt_q hq, by decide, by decide⟩
  · have hq' : quoB f = false := by simpa using hq
    unfold quoB at hq'
    rw [Bool.or_eq_false_iff, decide_eq_false_iff_not] at hq'
    rw [txt_f hq]
    cases hl : aB f with
    | nil => exact absurd (by rw [← aB_len, hl]; rfl) hq'.1
    | cons c l =>
      refine ⟨c, l, rfl, ?_⟩
      have hn : quoN c.toNat = false := by
        cases hh : quoN c.toNat
        · rfl
        · have := List.any_eq_true (p := fun c : UInt8 => quoN c.toNat).2 ⟨c, (show c ∈ aB f by rw [hl]; simp), hh⟩
          rw [hq'.2] at this; cases this
      unfold quoN at hn
      rw [Bool.or_eq_false_iff, decide_eq_false_iff_not] at hn
      exact hn
theorem skipN_pre {c : UInt8} {r : Bs} (hc : blkN c.toNat = false) : ∀ {a : Bs}, (∀ x ∈ a, blkN x.toNat = true) → skipN (a ++ c :: r) = a.length
  | [], _ => by unfold skipN; simp [List.takeWhile_cons, hc]
  | x :: a, h => by
    have := skipN_pre (c := c) (r := r) hc (a := a) (fun y hy => h y (by simp [hy]))
    unfold skipN at this ⊢
    rw [List.cons_append, List.takeWhile_cons, h x (by simp)]
    simp [this]
theorem fldsL_nil {k : Nat} {acc : List ByteArray} : fldsL k acc [] = (acc, 0) := by
  cases k with
  | zero => rfl
  | succ k => rw [fldsL, List.drop_nil, if_neg (by simp [moreL])]
theorem fldsL_join : ∀ {fs : List ByteArray} {k : Nat} {acc : List ByteArray} {a : Bs}, (∀ f ∈ fs, fieldE f = 0) → (∀ x ∈ a, blkN x.toNat = true) → acc.length + fs.length ≤ 12 → fs.length ≤ k → fs ≠ [] → fldsL k acc (a ++ joinS (fs.map txt)) = (acc ++ fs, 0)
  | [], k, acc, a, _, _, _, _, hne => absurd rfl hne
  | f :: fs, 0, acc, a, h1, h2, h3, h4, _ => by simp at h4
  | f :: fs, k + 1, acc, a, h1, h2, h3, h4, _ => by
    have hf := h1 f (by simp)
    obtain ⟨t, ht, hj, hk⟩ : ∃ t, tailOk t ∧ joinS ((f :: fs).map txt) = txt f ++ t ∧ fldsL k (acc ++ [f]) t = (acc ++ f :: fs, 0) := by
      cases fs with
      | nil => exact ⟨[], .inl rfl, by simp [joinS], by rw [fldsL_nil]⟩
      | cons g fs =>
        refine ⟨32 :: joinS ((g :: fs).map txt), .inr ⟨_, rfl⟩, rfl, ?_⟩
        have := fldsL_join (fs := g :: fs) (k := k) (acc := acc ++ [f]) (a := [32]) (fun x hx => h1 x (by simp at hx ⊢; exact .inr hx)) (by simp; decide) (by simp at h3 ⊢; omega) (by simp at h4 ⊢; omega) (by simp)
        rw [show [32] ++ joinS ((g :: fs).map txt) = 32 :: joinS ((g :: fs).map txt) from rfl] at this
        rw [this]; simp
    obtain ⟨c, r, hc, hb, h35⟩ := txt_head hf
    obtain ⟨o, ho, hcut⟩ := fieldL_txt hf ht
    have hs : skipN (a ++ (txt f ++ t)) = a.length := by rw [hc, List.cons_append]; exact skipN_pre hb h2
    rw [hj, fldsL, hs, List.drop_left' rfl, if_pos (by rw [hc, List.cons_append, moreL]; simpa using h35), ho]
    simp only
    have h24 := (fieldE_all hf).2
    rw [if_neg (by simp at h3; omega), List.drop_left' rfl]
    have : cutF (txt f ++ t) (o, f.size, (txt f).length) = f := by unfold cutF; simp only; rw [hcut, bA_aB]
    rw [this, hk]
/-- a line as it is joined, without what ends it -/
def lineS (x : Ln) : Bs := (if x.2.1 = true then [32] else []) ++ joinS (x.2.2.map txt)
theorem lineB_S (x : Ln) : lineB x = lineS x ++ [10] := by
  unfold lineB lineS
  rw [List.append_assoc]; rfl
theorem lineL_S {x : Ln} (h : lineE x.2.2 = 0) : lineL (lineS x) = (x.2.2, 0) := by
  obtain ⟨h1, h2, h3⟩ := lineE_ok h
  have := fldsL_join (fs := x.2.2) (k := 13) (acc := []) (a := if x.2.1 = true then [32] else []) h3 (by split <;> simp; decide) (by simp; omega) (by omega) (fun e => by rw [e] at h1; simp at h1)
  exact this
theorem lineS_head {x : Ln} (h : lineE x.2.2 = 0) : blkN (headN (lineS x)) = x.2.1 := by
  obtain ⟨h1, h2, h3⟩ := lineE_ok h
  unfold lineS
  by_cases hi : x.2.1 = true
  · rw [if_pos hi, hi]; rfl
  · rw [if_neg hi]
    have hi' : x.2.1 = false := by simpa using hi
    rw [hi']
    cases hl : x.2.2 with
    | nil => rw [hl] at h1; simp at h1
    | cons f fs =>
      obtain ⟨c, r, hc, hb, _⟩ := txt_head (h3 f (by rw [hl]; simp))
      cases fs with
      | nil => simp only [List.map_cons, List.map_nil, joinS, List.nil_append, hc]; exact hb
      | cons g fs => simp only [List.map_cons, joinS, List.nil_append, hc, List.cons_append]; exact hb
theorem txt_clean {f : ByteArray} (hf : fieldE f = 0) : (10 : UInt8) ∉ txt f := by
  have h1 := (fieldE_all hf).1
  have h10 : (10 : UInt8) ∉ aB f := fun h => by have := (badN_iff.1 (h1 _ h)).1; revert this; decide
  by_cases hq : quoB f = true
  · rw [txt_q hq]; simp; exact h10
  · rw [txt_f hq]; exact h10
theorem joinS_clean : ∀ {l : List Bs}, (∀ x ∈ l, (10 : UInt8) ∉ x) → (10 : UInt8) ∉ joinS l
  | [], _ => by simp [joinS]
  | [a], h => h a (by simp)
  | a :: b :: l, h => by
    have := joinS_clean (l := b :: l) (fun x hx => h x (by simp at hx ⊢; exact .inr hx))
    rw [joinS]
    simp only [List.mem_append, List.mem_cons, not_or]
    exact ⟨h a (by simp), by decide, this⟩
theorem lineS_clean {x : Ln} (h : lineE x.2.2 = 0) : (10 : UInt8) ∉ lineS x := by
  obtain ⟨h1, h2, h3⟩ := lineE_ok h
  unfold lineS
  rw [List.mem_append, not_or]
  refine ⟨by split <;> decide, joinS_clean fun y hy => ?_⟩
  obtain ⟨f, hf, rfl⟩ := List.mem_map.1 hy
  exact txt_clean (h3 f hf)
theorem cut_join : ∀ {l : List Ln}, (∀ x ∈ l, lineE x.2.2 = 0) → cutC 10 (joinT l) = l.map lineS ++ [[]]
  | [], _ => rfl
  | x :: l, h => by
    show cutC 10 (lineB x ++ joinT l) = _
    rw [lineB_S, List.append_assoc, List.singleton_append, cutC_at (lineS_clean (h x (by simp))), cut_join (fun y hy => h y (by simp [hy]))]
    rfl
theorem linesL_join : ∀ {l : List Ln} {n : Int} {acc : List Ln}, (∀ x ∈ l, lineE x.2.2 = 0) → ∃ y, linesL n (l.map lineS ++ [[]]) acc = (acc ++ y, 0, 0) ∧ y.map (·.2) = l.map (·.2)
  | [], n, acc, _ => ⟨[], by
      simp only [List.map_nil, List.nil_append, linesL]
      rw [if_neg (by decide), if_pos (show (lineL []).1 = [] from rfl), List.append_nil], rfl⟩
  | x :: l, n, acc, h => by
    have hx := h x (by simp)
    obtain ⟨y, h1, h2⟩ := linesL_join (l := l) (n := n + 1) (acc := acc ++ [(n, x.2.1, x.2.2)]) (fun z hz => h z (by simp [hz]))
    have hne : x.2.2 ≠ [] := fun e => by have := (lineE_ok hx).1; rw [e] at this; simp at this
    refine ⟨(n, x.2.1, x.2.2) :: y, ?_, by simp [h2]⟩
    rw [List.map_cons, List.cons_append, linesL, lineL_S hx, if_neg (by simp), if_neg hne, lineS_head hx, h1]
    simp
/-- WHAT IS JOINED IS SPLIT AS IT WAS, but for numbers -/
theorem split_join {l : List Ln} (h : (joinV l).2 = 0) : (splitL (joinV l).1).2.2 = 0 ∧ (splitL (joinV l).1).1.map (·.2) = l.map (·.2) := by
  unfold joinV at h ⊢
  split at h
  · cases h
  · rename_i h1
    split at h
    · rename_i h2; exact absurd h h2
    · rename_i h2
      split at h
      · cases h
      · rename_i h3
        rw [if_neg h1, if_neg h2, if_neg h3]
        have hl := joinE_all.1 (Decidable.of_not_not h2)
        obtain ⟨y, e1, e2⟩ := linesL_join (n := 1) (acc := []) hl
        rw [List.nil_append] at e1
        have hy : y.length = l.length := by have := congrArg List.length e2; simpa using this
        have e : splitL (bA (joinT l)) = (y, 0, 0) := by
          unfold splitL
          rw [if_neg (show ¬ 8000 < (bA (joinT l)).size from h3), aB_bA, cut_join hl, e1, if_neg (by simp), if_neg (by simp only; omega)]
        rw [e]
        exact ⟨rfl, e2⟩
/-! ### one text behind the other -/
theorem cut_app (b : Bs) : ∀ a : Bs, cutC 10 (a ++ 10 :: b) = cutC 10 a ++ cutC 10 b
  | [] => by simp [cutC]
  | c :: a => by
    have ih := cut_app b a
    rw [List.cons_append, cutC, cutC]
    split
    · rw [ih]; rfl
    · rw [ih]
      cases he : cutC 10 a with
      | nil => exact absurd he (cutC_ne 10 a)
      | cons x xs => rfl
theorem linesL_app : ∀ {xs ys : List Bs} {n : Int} {acc la : List Ln}, linesL n xs acc = (la, 0, 0) → linesL n (xs ++ ys) acc = linesL (n + xs.length) ys la
  | [], ys, n, acc, la, h => by
    simp only [linesL, Prod.mk.injEq] at h
    rw [h.1]; simp
  | x :: xs, ys, n, acc, la, h => by
    rw [linesL] at h
    rw [List.cons_append, linesL]
    split at h
    · rename_i h1; simp only [Prod.mk.injEq] at h; exact absurd h.2.2 h1
    · rename_i h1
      rw [if_neg h1, linesL_app h]
      congr 1
      simp; omega
/-- lines, their numbers raised -/
def upBy (k : Int) (l : List Ln) : List Ln := l.map fun x => (x.1 + k, x.2)
theorem linesL_up {k : Int} {la : List Ln} : ∀ {ys : List Bs} {n : Int} {acc : List Ln}, linesL (n + k) ys (la ++ upBy k acc) = if (linesL n ys acc).2.2 ≠ 0 then ([], (linesL n ys acc).2.1 + k, (linesL n ys acc).2.2) else (la ++ upBy k (linesL n ys acc).1, 0, 0)
  | [], n, acc => by simp [linesL]
  | y :: ys, n, acc => by
    by_cases h1 : (lineL y).2 = 0
    · rw [linesL, if_neg (by rw [h1]; simp)]
      have hr : linesL n (y :: ys) acc = linesL (n + 1) ys (if (lineL y).1 = [] then acc else acc ++ [(n, blkN (headN y), (lineL y).1)]) := by
        rw [linesL, if_neg (by rw [h1]; simp)]
      rw [hr, ← linesL_up (k := k) (la := la)]
      rw [show n + k + 1 = n + 1 + k by omega]
      congr 1
      split
      · rfl
      · simp [upBy]
    · rw [linesL, if_pos h1]
      have hr : linesL n (y :: ys) acc = ([], n, (lineL y).2) := by rw [linesL, if_pos h1]
      rw [hr]
      simp only
      rw [if_pos h1]
theorem linesL_no : ∀ {ys : List Bs} {n : Int} {acc : List Ln}, (linesL n ys acc).2.2 = 0 → (linesL n ys acc).2.1 = 0
  | [], n, acc, _ => rfl
  | y :: ys, n, acc, h => by
    rw [linesL] at h ⊢
    split at h
    · rename_i h1; exact absurd h h1
    · rename_i h1; rw [if_neg h1]; exact linesL_no h
theorem linesL_num : ∀ {ys : List Bs} {n : Int} {acc : List Ln}, (linesL n ys acc).2.2 ≠ 0 → n ≤ (linesL n ys acc).2.1
  | [], n, acc, h => absurd rfl h
  | y :: ys, n, acc, h => by
    rw [linesL] at h ⊢
    split at h
    · rename_i h1; rw [if_pos h1]; exact Int.le_refl _
    · rename_i h1
      rw [if_neg h1]
      have := linesL_num h
      omega
/-- the lines of one text behind another, which has k lines -/
theorem split_parts {s t : ByteArray} (hz : s.size + t.size < 8000) (hs : (splitL s).2.2 = 0) :
    splitL (s ++ bA [10] ++ t) = if (splitL t).2.2 ≠ 0 then ([], if (splitL t).2.1 = 0 then 0 else (splitL t).2.1 + (cutC 10 (aB s)).length, (splitL t).2.2)
      else if 200 < (splitL s).1.length + (splitL t).1.length then ([], 0, 2) else ((splitL s).1 ++ upBy (cutC 10 (aB s)).length (splitL t).1, 0, 0) := by
  obtain ⟨X, hX⟩ : ∃ X, X = linesL 1 (cutC 10 (aB s)) [] := ⟨_, rfl⟩
  obtain ⟨Y, hY⟩ : ∃ Y, Y = linesL 1 (cutC 10 (aB t)) [] := ⟨_, rfl⟩
  have es : splitL s = if X.2.2 ≠ 0 then X else if 200 < X.1.length then ([], 0, 2) else X := by
    unfold splitL; rw [if_neg (by omega), ← hX]
  have et : splitL t = if Y.2.2 ≠ 0 then Y else if 200 < Y.1.length then ([], 0, 2) else Y := by
    unfold splitL; rw [if_neg (by omega), ← hY]
  have hX0 : X.2.2 = 0 := by
    rw [es] at hs
    split at hs
    · rename_i h; exact absurd hs h
    · rename_i h; exact Decidable.of_not_not h
  have hXn : X.2.1 = 0 := by rw [hX] at hX0 ⊢; exact linesL_no hX0
  have hXe : linesL 1 (cutC 10 (aB s)) [] = (X.1, 0, 0) := by rw [← hX]; exact Prod.ext rfl (Prod.ext hXn hX0)
  rw [if_neg (by rw [hX0]; simp)] at es
  have hXl : ¬ 200 < X.1.length := by
    intro h
    rw [es, if_pos h] at hs; cases hs
  rw [if_neg hXl] at es
  have hu : linesL 1 (cutC 10 (aB (s ++ bA [10] ++ t))) [] = if Y.2.2 ≠ 0 then ([], Y.2.1 + (cutC 10 (aB s)).length, Y.2.2) else (X.1 ++ upBy (cutC 10 (aB s)).length Y.1, 0, 0) := by
    rw [show aB (s ++ bA [10] ++ t) = aB s ++ 10 :: aB t by rw [aB_app, aB_app, aB_bA]; simp, cut_app, linesL_app hXe]
    have := linesL_up (k := ((cutC 10 (aB s)).length : Int)) (la := X.1) (ys := cutC 10 (aB t)) (n := 1) (acc := [])
    rw [← hY] at this
    simpa [upBy] using this
  have hsz : ¬ 8000 < (s ++ bA [10] ++ t).size := by rw [ByteArray.size_append, ByteArray.size_append, bA_size, List.length_singleton]; omega
  have hup : (upBy (cutC 10 (aB s)).length Y.1).length = Y.1.length := by unfold upBy; rw [List.length_map]
  by_cases hY0 : Y.2.2 = 0
  · rw [if_neg (show ¬ Y.2.2 ≠ 0 by rw [hY0]; simp)] at hu et
    rw [splitL, if_neg hsz, hu, es, if_neg (show ¬ (0 : Int) ≠ 0 by simp)]
    simp only [List.length_append, hup]
    by_cases h2 : 200 < Y.1.length
    · rw [if_pos h2] at et
      rw [et, if_pos (by omega), if_pos (by simp), if_pos rfl]
    · rw [if_neg h2] at et
      rw [et, if_neg (show ¬ Y.2.2 ≠ 0 by rw [hY0]; simp)]
  · rw [if_pos hY0] at hu et
    have := linesL_num (n := 1) (ys := cutC 10 (aB t)) (acc := []) (by rw [← hY]; exact hY0)
    rw [← hY] at this
    rw [splitL, if_neg hsz, hu, if_pos hY0, et, if_pos hY0, if_neg (by omega)]
end Go.Proofs.YtgjchdhdopgkkaaDoor
