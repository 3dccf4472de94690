/-
  Plain facts about patches, and the shapes of the laws' arguments. No condition.
-/
import Derived.Test.YtmbebimingkfeaaADelE
import Derived.Test.YtmbebimingkfeaaARd
set_option linter.unusedVariables false
set_option linter.unusedSimpArgs false
set_option maxRecDepth 100000
namespace Go.Proofs.Ytmbebimingkfeaa
open Go.Ab Civ
theorem com_ge : ∀ {k : Nat} {l m : List Chg}, k ≤ l.length → k ≤ m.length → l.take k = m.take k → k ≤ com l m
  | 0, _, _, _, _, _ => Nat.zero_le _
  | k + 1, [], _, h, _, _ => by simp at h
  | k + 1, _ :: _, [], _, h, _ => by simp at h
  | k + 1, a :: l, b :: m, h1, h2, h => by
    simp only [List.take_succ_cons, List.cons.injEq] at h
    have := com_ge (k := k) (l := l) (m := m) (by simpa using h1) (by simpa using h2) h.2
    rw [com, if_pos h.1]
    omega
theorem app_bad {t : Tab} {p : Pat} (h : appE t p ≠ 0) : appV t p = noTab := by
  unfold appV
  split
  · rfl
  · rename_i h1
    rw [appE, if_neg h1] at h
    rw [patV, if_neg h]
theorem app_ok {t : Tab} {p : Pat} (h : appE t p = 0) : checkT t = 0 ∧ ¬ offP t p ∧ p.2.2.2.length ≤ 1000 ∧ checkT (outT t p) = 0 ∧ appV t p = outT t p := by
  have h1 : checkT t = 0 := by
    by_cases e : checkT t = 0
    · exact e
    · rw [appE, if_pos e] at h; exact absurd h e
  have h2 : patE t p = 0 := by rw [appE, if_neg (by simpa using h1)] at h; exact h
  have h3 : ¬ offP t p := fun e => by rw [patE, if_pos e] at h2; cases h2
  have h4 : ¬ 1000 < p.2.2.2.length := fun e => by rw [patE, if_neg h3, if_pos e] at h2; cases h2
  refine ⟨h1, h3, by omega, ?_, ?_⟩
  · rw [patE, if_neg h3, if_neg h4] at h2; exact h2
  · rw [appV, if_neg (by simpa using h1), patV, if_pos h2]
theorem okT_app {t : Tab} {p : Pat} (ht : okT t) (hp : okP p) : okT (appV t p) := by
  by_cases h : appE t p = 0
  · rw [(app_ok h).2.2.2.2]; exact okT_out ht hp
  · rw [app_bad h]; exact ⟨by decide, by intro x hx; cases hx⟩
theorem least_plain {t : Tab} {p : Pat} (h : appE t p = 0) : diffE t (appV t p) = 0 ∧ (diffP t (appV t p)).2.2.2.length ≤ p.2.2.2.length ∧ (diffP t (appV t p)).1 = p.1 := by
  obtain ⟨h1, h2, h3, h4, h5⟩ := app_ok h
  rw [h5]
  have hE : diffE t (outT t p) = 0 := by rw [diffE, if_neg (by simpa using h1)]; exact h4
  refine ⟨hE, ?_, by rw [diffP, if_pos hE]; rfl⟩
  rw [diffP, if_pos hE]
  unfold offP at h2
  obtain ⟨a, ha⟩ : ∃ a : Nat, p.2.1 = (a : Int) := ⟨p.2.1.toNat, by omega⟩
  obtain ⟨b, hb⟩ : ∃ b : Nat, p.2.2.1 = (b : Int) := ⟨p.2.2.1.toNat, by omega⟩
  have hu : (outT t p).2 = t.2.take a ++ (p.2.2.2 ++ t.2.drop (t.2.length - b)) := by
    simp only [outT, ha, hb, List.flatten_cons, List.flatten_nil, List.append_nil, Int.toNat_natCast]
    congr 3
    omega
  have hab : a + b ≤ t.2.length := by omega
  have hlen : (outT t p).2.length = a + p.2.2.2.length + b := by
    rw [hu]; simp only [List.length_append, List.length_take, List.length_drop]; omega
  have hd1 : a ≤ hdOf t (outT t p) := by
    refine com_ge (by omega) (by omega) ?_
    rw [hu, List.take_append_of_le_length (by simp; omega), List.take_take, Nat.min_self]
  have hdl := hd_le t (outT t p)
  have htl := tl_le t (outT t p)
  generalize hk : min b (min (t.2.length - hdOf t (outT t p)) ((outT t p).2.length - hdOf t (outT t p))) = k
  have htl1 : k ≤ tlOf t (outT t p) := by
    refine com_ge (by simp; omega) (by simp; omega) ?_
    rw [List.take_reverse, List.take_reverse, List.drop_drop, List.drop_drop, List.length_drop, List.length_drop]
    congr 1
    rw [show hdOf t (outT t p) + (t.2.length - hdOf t (outT t p) - k) = t.2.length - k by omega, show hdOf t (outT t p) + ((outT t p).2.length - hdOf t (outT t p) - k) = (outT t p).2.length - k by omega]
    have e1 : t.2.drop (t.2.length - k) = (t.2.drop (t.2.length - b)).drop (b - k) := by rw [List.drop_drop]; congr 1; omega
    have e2 : (outT t p).2.drop ((outT t p).2.length - k) = (t.2.drop (t.2.length - b)).drop (b - k) := by
      rw [hlen, hu, ← List.append_assoc, List.drop_append, List.drop_eq_nil_of_le (by simp only [List.length_append, List.length_take]; omega), List.nil_append]
      congr 1
      simp only [List.length_append, List.length_take]
      omega
    rw [e1, e2]
  simp only [patOf, List.length_drop, List.length_take]
  omega
theorem com_eq : ∀ (l m : List Chg), l.take (com l m) = m.take (com l m)
  | a :: l, b :: m => by
    unfold com
    split
    · rename_i h
      rw [List.take_succ_cons, List.take_succ_cons, com_eq l m, h]
    · rfl
  | [], m => by simp [com]
  | _ :: _, [] => by simp [com]
theorem com_self : ∀ (l : List Chg), com l l = l.length
  | [] => rfl
  | a :: l => by rw [com, if_pos rfl, com_self l]; rfl
theorem diffE_0 {t u : Tab} (h : diffE t u = 0) : checkT t = 0 ∧ checkT u = 0 := by
  unfold diffE at h
  split at h
  · rename_i h1; exact absurd h h1
  · rename_i h1; exact ⟨Decidable.of_not_not h1, h⟩
theorem diffE_of {t u : Tab} (h : checkT t = 0) (k : checkT u = 0) : diffE t u = 0 := by rw [diffE, if_neg (by simpa using h)]; exact k
theorem diffP_bad {t u : Tab} (h : diffE t u ≠ 0) : diffP t u = noPat := by rw [diffP, if_neg h]
theorem okP_diff {t u : Tab} (hu : okT u) : okP (diffP t u) := by
  by_cases h : diffE t u = 0
  · rw [diffP, if_pos h]
    exact ⟨hu.1, fun x hx => hu.2 x (List.mem_of_mem_take (List.mem_of_mem_drop hx))⟩
  · rw [diffP_bad h]; exact ⟨by decide, by intro x hx; cases hx⟩
theorem leads {t u : Tab} (h : diffE t u = 0) : appE t (diffP t u) = 0 ∧ appV t (diffP t u) = u := by
  obtain ⟨h1, h2⟩ := diffE_0 h
  have hd := hd_le t u
  have tl := tl_le t u
  have hl2 := checkT_len h2
  rw [diffP, if_pos h]
  have e1 : t.2.take (hdOf t u) = u.2.take (hdOf t u) := com_eq _ _
  have e2 : t.2.drop (t.2.length - tlOf t u) = u.2.drop (u.2.length - tlOf t u) := by
    have := com_eq (t.2.drop (hdOf t u)).reverse (u.2.drop (hdOf t u)).reverse
    have h3 : (t.2.drop (hdOf t u)).reverse.take (tlOf t u) = (u.2.drop (hdOf t u)).reverse.take (tlOf t u) := this
    rw [List.take_reverse, List.take_reverse, List.reverse_inj, List.drop_drop, List.drop_drop, List.length_drop, List.length_drop] at h3
    rw [show hdOf t u + (t.2.length - hdOf t u - tlOf t u) = t.2.length - tlOf t u by omega, show hdOf t u + (u.2.length - hdOf t u - tlOf t u) = u.2.length - tlOf t u by omega] at h3
    exact h3
  have hoff : ¬ offP t (patOf t u) := by simp only [offP, patOf]; omega
  have hout : outT t (patOf t u) = u := by
    refine Prod.ext rfl ?_
    simp only [outT, patOf, List.flatten_cons, List.flatten_nil, List.append_nil, Int.toNat_natCast]
    rw [show ((t.2.length : Int) - (tlOf t u : Int)).toNat = t.2.length - tlOf t u by omega, e1, e2]
    have e3 : (u.2.take (u.2.length - tlOf t u)) = u.2.take (hdOf t u) ++ (u.2.take (u.2.length - tlOf t u)).drop (hdOf t u) := by
      conv => lhs; rw [← List.take_append_drop (hdOf t u) (u.2.take (u.2.length - tlOf t u))]
      rw [List.take_take, Nat.min_eq_left (by omega)]
    rw [← List.append_assoc, ← e3, List.take_append_drop]
  have hput : ¬ 1000 < (patOf t u).2.2.2.length := by simp only [patOf, List.length_drop, List.length_take]; omega
  have hE : patE t (patOf t u) = 0 := by rw [patE, if_neg hoff, if_neg hput, hout]; exact h2
  exact ⟨by rw [appE, if_neg (by simpa using h1)]; exact hE, by rw [appV, if_neg (by simpa using h1), patV, if_pos hE, hout]⟩
theorem self_plain {t : Tab} (h : checkT t = 0) : diffE t t = 0 ∧ (diffP t t).2.2.2.length = 0 ∧ (diffP t t).2.1 = t.2.length := by
  have hE := diffE_of h h
  refine ⟨hE, ?_, ?_⟩
  · rw [diffP, if_pos hE]; simp only [patOf, hdOf, com_self, List.length_drop, List.length_take]; omega
  · rw [diffP, if_pos hE]; simp only [patOf, hdOf, com_self]
abbrev LocD : Ds := .pair .int (.pair .int .str)
abbrev ChgD : Ds := .pair .int LocD
abbrev TabD : Ds := .pair LocD (.slice ChgD)
abbrev PatD : Ds := .pair LocD (.pair .int (.pair .int (.slice ChgD)))
theorem okT_of {t : El TabD} (h : okD TabD t) : okT t := ⟨h.1.2.2, fun x hx => by
  obtain ⟨i, hi, rfl⟩ := List.getElem_of_mem hx
  exact (h.2 i hi).2.2.2⟩
theorem okP_of {p : El PatD} (h : okD PatD p) : okP p := ⟨h.1.2.2, fun x hx => by
  obtain ⟨i, hi, rfl⟩ := List.getElem_of_mem hx
  exact (h.2.2.2 i hi).2.2.2⟩
end Go.Proofs.Ytmbebimingkfeaa
