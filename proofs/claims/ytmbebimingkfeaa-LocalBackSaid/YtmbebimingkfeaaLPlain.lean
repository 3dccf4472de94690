/-
  The times at which clocks show something, span by span, and sorted: no program in sight. Conditions: those that each theorem names.
-/
import Derived.Test.YtmbebimingkfeaaALocal
set_option linter.unusedVariables false
set_option linter.unusedSimpArgs false
set_option maxRecDepth 100000
namespace Go.Proofs.Ytmbebimingkfeaa
open Go.Ab Civ
theorem chk_rise : ∀ {a : Int} {l : Loc} {cs : List Chg}, chk a l cs = 0 → (∀ c ∈ cs, a < c.1) ∧ cs.Pairwise (fun c d => c.1 < d.1)
  | a, l, [], _ => ⟨by simp, List.Pairwise.nil⟩
  | a, l, d :: cs, h => by
    rw [chk] at h
    split at h
    · cases h
    · split at h
      · cases h
      · rename_i h1 h2
        split at h
        · rename_i h3; exact absurd h h3
        · split at h
          · cases h
          · obtain ⟨k1, k2⟩ := chk_rise h
            refine ⟨fun c hc => ?_, List.Pairwise.cons k1 k2⟩
            rcases List.mem_cons.1 hc with rfl | hc
            · omega
            · have := k1 c hc; omega
theorem checkT_rise {t : Tab} (h : checkT t = 0) : t.2.Pairwise (fun c d => c.1 < d.1) := by
  obtain ⟨h1, h2, _⟩ := checkT_all h
  unfold checkT at h
  rw [if_neg (by omega), if_neg (by rw [h2]; simp)] at h
  exact (chk_rise h).2
def lookA (n : Int) : Loc → List Chg → Loc
  | a, [] => a
  | a, c :: l => lookA n (if c.1 ≤ n then c.2 else a) l
theorem lookA_snoc {n : Int} : ∀ {a : Loc} {l : List Chg} {c : Chg}, lookA n a (l ++ [c]) = if c.1 ≤ n then c.2 else lookA n a l
  | a, [], c => rfl
  | a, d :: l, c => by rw [List.cons_append, lookA, lookA_snoc, lookA]
theorem lookA_stay {n : Int} : ∀ {a : Loc} {l : List Chg}, (∀ c ∈ l, n < c.1) → lookA n a l = a
  | a, [], _ => rfl
  | a, c :: l, h => by rw [lookA, if_neg (by have := h c (by simp); omega)]; exact lookA_stay (fun d hd => h d (by simp [hd]))
theorem lookA_is {n : Int} : ∀ {a : Loc} {l : List Chg}, l.Pairwise (fun c d => c.1 < d.1) → lookA n a l = lastL a (l.take (l.findIdx fun c => decide (n < c.1)))
  | a, [], _ => rfl
  | a, c :: l, h => by
    obtain ⟨h1, h2⟩ := List.pairwise_cons.1 h
    rw [List.findIdx_cons]
    by_cases hc : n < c.1
    · simp only [hc, decide_true, cond_true, List.take_zero]
      rw [lookA, if_neg (by omega)]
      exact lookA_stay (fun d hd => by have := h1 d hd; omega)
    · simp only [hc, decide_false, cond_false, List.take_succ_cons, lastL]
      rw [lookA, if_pos (by omega)]
      exact lookA_is h2
theorem lookA_there {t : Tab} (h : checkT t = 0) (n : Int) : lookA n t.1 t.2 = thereL t n := lookA_is (checkT_rise h)
/-- the shift that holds at a time -/
def shF (x : Int) : Int → List Chg → Int
  | s, [] => s
  | s, c :: l => if x < c.1 then s else shF x c.2.1 l
theorem shF_is {x : Int} : ∀ {a : Loc} {l : List Chg}, (lastL a (l.take (l.findIdx fun c => decide (x < c.1)))).1 = shF x a.1 l
  | a, [] => rfl
  | a, c :: l => by
    rw [List.findIdx_cons]
    by_cases hc : x < c.1
    · simp [hc, lastL, shF]
    · simp only [hc, decide_false, cond_false, List.take_succ_cons, lastL, shF]
      exact shF_is
theorem shF_there (t : Tab) (x : Int) : (thereL t x).1 = shF x t.1.1 t.2 := shF_is
/-- the times, span by span -/
def spL (N : Int) : Int → Int → List Chg → List Int
  | f, s, [] => if f ≤ N - s ∧ N - s < 253402300800 then [N - s] else []
  | f, s, c :: l => (if f ≤ N - s ∧ N - s < c.1 then [N - s] else []) ++ spL N c.1 c.2.1 l
theorem spL_mem {N : Int} : ∀ {f s : Int} {l : List Chg}, (∀ c ∈ l, f ≤ c.1 ∧ c.1 < 253402300800) → l.Pairwise (fun c d => c.1 < d.1) → ∀ {x : Int}, x ∈ spL N f s l ↔ f ≤ x ∧ x < 253402300800 ∧ shF x s l = N - x
  | f, s, [], _, _, x => by
    simp only [spL, shF]
    split
    · simp only [List.mem_singleton]; omega
    · simp; omega
  | f, s, c :: l, hb, hp, x => by
    obtain ⟨h1, h2⟩ := List.pairwise_cons.1 hp
    have hc := hb c (by simp)
    have ih := spL_mem (N := N) (f := c.1) (s := c.2.1) (l := l) (fun d hd => ⟨by have := h1 d hd; omega, (hb d (by simp [hd])).2⟩) h2 (x := x)
    rw [spL, List.mem_append, ih, shF]
    by_cases hx : x < c.1
    · rw [if_pos hx]
      constructor
      · rintro (h | h)
        · split at h
          · simp at h; omega
          · simp at h
        · omega
      · rintro ⟨a, b, e⟩
        left
        rw [if_pos (by omega)]
        simp; omega
    · rw [if_neg hx]
      constructor
      · rintro (h | h)
        · split at h
          · simp at h; omega
          · simp at h
        · omega
      · rintro ⟨a, b, e⟩
        exact .inr ⟨by omega, b, e⟩
theorem spL_nodup {N : Int} : ∀ {f s : Int} {l : List Chg}, (∀ c ∈ l, f ≤ c.1 ∧ c.1 < 253402300800) → l.Pairwise (fun c d => c.1 < d.1) → (spL N f s l).Nodup
  | f, s, [], _, _ => by unfold spL; split <;> simp
  | f, s, c :: l, hb, hp => by
    obtain ⟨h1, h2⟩ := List.pairwise_cons.1 hp
    have hb2 : ∀ d ∈ l, c.1 ≤ d.1 ∧ d.1 < 253402300800 := fun d hd => ⟨by have := h1 d hd; omega, (hb d (by simp [hd])).2⟩
    rw [spL]
    refine List.nodup_append.2 ⟨by split <;> simp, spL_nodup hb2 h2, fun a ha b hb3 => ?_⟩
    have := ((spL_mem hb2 h2).1 hb3).1
    split at ha
    · simp at ha; omega
    · simp at ha
def spA (t : Tab) (N : Int) : List Int := spL N (-62135596800) t.1.1 t.2
theorem thereL_mem {t : Tab} (x : Int) : (thereL t x).1 ∈ shI t := by
  rw [mem_shI]
  have : ∀ (a : Loc) (l : List Chg), lastL a l = a ∨ ∃ c ∈ l, lastL a l = c.2 := by
    intro a l
    induction l generalizing a with
    | nil => exact .inl rfl
    | cons c l ih =>
      rcases ih c.2 with h | ⟨d, hd, h⟩
      · exact .inr ⟨c, by simp, h⟩
      · exact .inr ⟨d, by simp [hd], h⟩
  rcases this t.1 (t.2.take (afterI t x)) with h | ⟨c, hc, h⟩
  · left; unfold thereL; rw [h]
  · right; exact ⟨c, List.mem_of_mem_take hc, by unfold thereL; rw [h]⟩
theorem wl_mem {t : Tab} {N x : Int} : x ∈ wl t N (shI t) ↔ timeB x = true ∧ (thereL t x).1 = N - x := by
  unfold wl fitsB
  rw [List.mem_map]
  constructor
  · rintro ⟨s, hs, rfl⟩
    obtain ⟨h1, h2⟩ := List.mem_filter.1 hs
    simp only [Bool.and_eq_true, decide_eq_true_eq] at h2
    exact ⟨h2.1, by rw [h2.2]; omega⟩
  · rintro ⟨h1, h2⟩
    refine ⟨N - x, List.mem_filter.2 ⟨by rw [← h2]; exact thereL_mem x, ?_⟩, by omega⟩
    simp only [show N - (N - x) = x by omega, h1, h2, decide_true, Bool.and_self]
theorem shI_nodup (t : Tab) : (shI t).Nodup := (List.mergeSort_perm _ _).nodup_iff.2 (dd_nodup _)
theorem wl_nodup {t : Tab} {N : Int} : (wl t N (shI t)).Nodup := by
  unfold wl
  exact List.Pairwise.map _ (fun a b h e => h (by omega)) ((shI_nodup t).filter _)
theorem spA_when {t : Tab} (h : checkT t = 0) (N : Int) : sortI (spA t N) = whenL t N := by
  obtain ⟨_, h2, h3⟩ := checkT_all h
  have hr := checkT_rise h
  have hb : ∀ c ∈ t.2, -62135596800 ≤ c.1 ∧ c.1 < 253402300800 := fun c hc => by have := timeB_iff.1 (h3 c hc).1; omega
  refine sortI_perm ((List.perm_ext_iff_of_nodup (spL_nodup hb hr) wl_nodup).2 fun x => ?_)
  rw [spL_mem hb hr, wl_mem, shF_there, timeB_iff]
  omega
theorem sortI_sorted (l : List Int) : (sortI l).Pairwise (· ≤ ·) := by
  have tr : ∀ a b c : Int, decide (a ≤ b) = true → decide (b ≤ c) = true → decide (a ≤ c) = true := fun a b c h1 h2 => by simp only [decide_eq_true_eq] at *; omega
  have to : ∀ a b : Int, (decide (a ≤ b) || decide (b ≤ a)) = true := fun a b => by simp only [Bool.or_eq_true, decide_eq_true_eq]; omega
  exact (List.pairwise_mergeSort tr to l).imp (fun h => by simpa using h)
theorem sortI_uniq {l m : List Int} (hp : m.Perm l) (hs : m.Pairwise (· ≤ ·)) : m = sortI l :=
  List.Perm.eq_of_pairwise (le := fun a b : Int => a ≤ b) (fun a b _ _ h1 h2 => by omega) hs (sortI_sorted l) (hp.trans (List.mergeSort_perm l _).symm)
theorem whenL_mem {t : Tab} {N x : Int} : x ∈ whenL t N ↔ timeB x = true ∧ (thereL t x).1 = N - x := by rw [whenL, mem_sortI, wl_mem]
theorem whenL_rise (t : Tab) (N : Int) : (whenL t N).Pairwise (· < ·) := by
  have h1 := sortI_sorted (wl t N (shI t))
  have h2 : (whenL t N).Nodup := (List.mergeSort_perm _ _).nodup_iff.2 wl_nodup
  exact (h1.and h2).imp (fun h => by omega)
end Go.Proofs.Ytmbebimingkfeaa
