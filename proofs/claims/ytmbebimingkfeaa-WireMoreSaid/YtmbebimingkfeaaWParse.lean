/-
  What is encoded is decoded as it was, on plain data: no program in sight. Conditions: those that each theorem names.
-/
import Derived.Test.YtmbebimingkfeaaWDecC
set_option linter.unusedVariables false
set_option linter.unusedSimpArgs false
set_option maxRecDepth 100000
namespace Go.Proofs.Ytmbebimingkfeaa
open Go.Ab Civ
theorem tk_app {n : Nat} {A r : List UInt8} (h : A.length = n) (sh : Bool) : tkR n (A ++ r) = A ∧ tkS n (A ++ r) = r ∧ tkB n (A ++ r) sh = sh := by
  subst h
  have e : ¬ (A ++ r).length < A.length := by simp
  refine ⟨?_, ?_, ?_⟩
  · rw [tkR, if_neg e]; simp
  · rw [tkS, if_neg e]; simp
  · rw [tkB, if_neg e]
theorem tk_le {n : Nat} {x : Int} {r : List UInt8} (sh : Bool) (h0 : 0 ≤ x) (h1 : x < 256 ^ n) : nm (tkR n (le n x ++ r)) = x ∧ tkS n (le n x ++ r) = r ∧ tkB n (le n x ++ r) sh = sh := by
  obtain ⟨a, b, c⟩ := tk_app (r := r) (le_len n x) sh
  exact ⟨by rw [a, nm_le n x h0 h1], b, c⟩
theorem st1_enc {l : Loc} {r : List UInt8} {K : List Loc} {v : Nat} (hl : locE l = 0) : st1 (encL l ++ r, false, K, v) = (r, false, K ++ [l], v + 1) := by
  obtain ⟨h1, h2, h3, h4, _⟩ := locE_ok hl
  have hsz : l.2.2.data.toList.length = l.2.2.size := by simp
  have e : encL l ++ r = le 3 (l.1 + 100000) ++ (le 2 l.2.1 ++ (le 1 (l.2.2.size : Int) ++ (l.2.2.data.toList ++ r))) := by simp [encL]
  obtain ⟨a1, a2, a3⟩ := tk_le (n := 3) (x := l.1 + 100000) (r := le 2 l.2.1 ++ (le 1 (l.2.2.size : Int) ++ (l.2.2.data.toList ++ r))) false (by omega) (by omega)
  obtain ⟨b1, b2, b3⟩ := tk_le (n := 2) (x := l.2.1) (r := le 1 (l.2.2.size : Int) ++ (l.2.2.data.toList ++ r)) false (by omega) (by omega)
  obtain ⟨c1, c2, c3⟩ := tk_le (n := 1) (x := (l.2.2.size : Int)) (r := l.2.2.data.toList ++ r) false (by omega) (by omega)
  obtain ⟨d1, d2, d3⟩ := tk_app (r := r) hsz false
  rw [← e] at a1 a2 a3
  have f1 : s1 (encL l ++ r) = le 2 l.2.1 ++ (le 1 (l.2.2.size : Int) ++ (l.2.2.data.toList ++ r)) := a2
  have f2 : s2 (encL l ++ r) = le 1 (l.2.2.size : Int) ++ (l.2.2.data.toList ++ r) := by rw [s2, f1, b2]
  have f3 : s3 (encL l ++ r) = l.2.2.data.toList ++ r := by rw [s3, f2, c2]
  have f4 : nl (encL l ++ r) = l.2.2.size := by rw [nl, f2, c1]; omega
  simp only [st1, d1S, d1B, d1L, f1, f2, f3, f4, a1, a3, b1, b3, c3, d1, d2, d3]
  have : l.1 + 100000 - 100000 = l.1 := by omega
  rw [this]
theorem iter1 {r : List UInt8} : ∀ (L : List Loc) (K : List Loc) (v : Nat), (∀ x ∈ L, locE x = 0) → iterT (fun s : P1 => s.2.1) st1 L.length (L.flatMap encL ++ r, false, K, v) = (r, false, K ++ L, v + L.length)
  | [], K, v, _ => by simp [iterT]
  | l :: L, K, v, h => by
    rw [List.length_cons, iterT_no rfl, List.flatMap_cons, List.append_assoc, st1_enc (h l (by simp)), iter1 L _ _ (fun x hx => h x (by simp [hx]))]
    simp; omega
theorem st2_enc {c : Chg} {k : Nat} {r : List UInt8} {K : List Loc} {C : List Chg} {v : Nat} (hc : timeB c.1 = true) (hk : K[k]? = some c.2) (hK : K.length ≤ 65535) : st2 K (encC (c, k) ++ r, false, C, v) = (r, false, C ++ [c], v + 1) := by
  have h1 := timeB_iff.1 hc
  have hk2 : k < K.length := (List.getElem?_eq_some_iff.1 hk).1
  have e : encC (c, k) ++ r = le 5 (c.1 + 274877906944) ++ (le 2 (k : Int) ++ r) := by simp [encC]
  obtain ⟨a1, a2, a3⟩ := tk_le (n := 5) (x := c.1 + 274877906944) (r := le 2 (k : Int) ++ r) false (by omega) (by omega)
  obtain ⟨b1, b2, b3⟩ := tk_le (n := 2) (x := (k : Int)) (r := r) false (by omega) (by omega)
  rw [← e] at a1 a2 a3
  have f1 : lcR K (le 2 (k : Int) ++ r) = c.2 := by rw [lcR, b1, List.getD_eq_getElem?_getD, Int.toNat_natCast, hk]; rfl
  have f2 : lcB K (le 2 (k : Int) ++ r) false = false := by rw [lcB, b1, if_pos (by omega), b3]
  simp only [st2, d2S, d2B, d2C, a1, a2, a3, b2, f1, f2]
  have : c.1 + 274877906944 - 274877906944 = c.1 := by omega
  rw [this]
theorem iter2 {K : List Loc} {r : List UInt8} (hK : K.length ≤ 65535) : ∀ (L : List (Chg × Nat)) (C : List Chg) (v : Nat), (∀ x ∈ L, timeB x.1.1 = true ∧ K[x.2]? = some x.1.2) → iterT (fun s : P2 => s.2.1) (st2 K) L.length (L.flatMap encC ++ r, false, C, v) = (r, false, C ++ L.map (·.1), v + L.length)
  | [], C, v, _ => by simp [iterT]
  | l :: L, C, v, h => by
    have hl := h l (by simp)
    rw [List.length_cons, iterT_no rfl, List.flatMap_cons, List.append_assoc, show l = (l.1, l.2) from rfl, st2_enc hl.1 hl.2 hK, iter2 hK L _ _ (fun x hx => h x (by simp [hx]))]
    simp; omega
/-- what is told of a table that is right -/
theorem enc_facts {t : Tab} (h : checkT t = 0) : (∀ x ∈ kinds t, locE x = 0) ∧ (kinds t).length ≤ 1001 ∧ t.2.length ≤ 1000 ∧ (t.2.zip (kindI t)).length = t.2.length ∧ (t.2.zip (kindI t)).map (·.1) = t.2 ∧ ∀ x ∈ t.2.zip (kindI t), timeB x.1.1 = true ∧ (kinds t)[x.2]? = some x.1.2 := by
  obtain ⟨hv1, hv2, hv3⟩ := checkT_all h
  have hIl : (kindI t).length = t.2.length := isOf_len _ _
  have hkn := kinds_len t
  refine ⟨ksOf_all _ _ (by intro x hx; simp at hx; subst hx; exact hv2) (fun c hc => (hv3 c hc).2), by omega, hv1, by rw [List.length_zip]; omega, ?_, ?_⟩
  · exact List.map_fst_zip (by omega)
  · intro x hx
    obtain ⟨i, hi, rfl⟩ := List.getElem_of_mem hx
    have hi2 : i < t.2.length := by rw [List.length_zip] at hi; omega
    rw [List.getElem_zip]
    exact ⟨(hv3 _ (List.getElem_mem hi2)).1, isOf_at [t.1] t.2 i hi2⟩
theorem dec_enc {t : Tab} (h : checkT t = 0) : decV (enc t) = (t, 0) := by
  obtain ⟨k1, k2, k3, k4, k5, k6⟩ := enc_facts h
  have hz := kinds_pos t
  have h0 := kinds_0 t
  obtain ⟨a1, a2, a3⟩ := tk_le (n := 2) (x := ((kinds t).length : Int)) (r := (kinds t).flatMap encL ++ (le 2 0 ++ (le 2 t.2.length ++ (t.2.zip (kindI t)).flatMap encC))) false (by omega) (by omega)
  have hp1 : p1 (enc t) = (le 2 0 ++ (le 2 t.2.length ++ (t.2.zip (kindI t)).flatMap encC), false, kinds t, (kinds t).length) := by
    rw [p1, enc, a1, a2, a3, Int.toNat_natCast, iter1 _ _ _ k1]
    simp
  obtain ⟨b1, b2, b3⟩ := tk_le (n := 2) (x := 0) (r := le 2 t.2.length ++ (t.2.zip (kindI t)).flatMap encC) false (by omega) (by omega)
  obtain ⟨c1, c2, c3⟩ := tk_le (n := 2) (x := (t.2.length : Int)) (r := (t.2.zip (kindI t)).flatMap encC) false (by omega) (by omega)
  have hq : q0 (enc t) = le 2 t.2.length ++ (t.2.zip (kindI t)).flatMap encC := by rw [q0, hp1]; exact b2
  have hb : qB (enc t) = false := by rw [qB, hp1]; simp only [lcB, b1, b3]; rw [if_pos (by omega)]
  have hp2 : p2 (enc t) = ([], false, t.2, t.2.length) := by
    have := iter2 (K := kinds t) (r := []) (by omega) (t.2.zip (kindI t)) [] 0 k6
    rw [List.append_nil, k4, k5] at this
    rw [p2, hq, hb, c1, c2, c3, hp1, Int.toNat_natCast, this]
    simp
  have hT : pT (enc t) = t := by
    rw [pT, hp1, hp2]
    simp only [lcR, b1]
    rw [List.getD_eq_getElem?_getD, show (0 : Int).toNat = 0 from rfl, h0]
    rfl
  rw [decV, if_pos ⟨by rw [hp2], by rw [hT]; exact h, by rw [hT]⟩, hT]
theorem decV_ok {S : List UInt8} (h : (decV S).2 = 0) : checkT (decV S).1 = 0 ∧ enc (decV S).1 = S := by
  unfold decV at h ⊢
  split at h
  · rename_i h1; rw [if_pos h1]; exact h1.2
  · simp at h
theorem decV_no {S : List UInt8} (h : (decV S).2 ≠ 0) : decV S = (noTab, 1) := by
  unfold decV at h ⊢
  split at h
  · simp at h
  · rename_i h1; rw [if_neg h1]
theorem decV_none {S : List UInt8} (h : ¬ ∃ t : Tab, checkT t = 0 ∧ enc t = S) : decV S = (noTab, 1) := by
  apply decV_no
  intro e
  exact h ⟨_, decV_ok e⟩
theorem decV_is {S : List UInt8} {t : Tab} (h : checkT t = 0) (e : enc t = S) : decV S = (t, 0) := by subst e; exact dec_enc h
theorem okT_chk {t : Tab} (h : checkT t = 0) : okT t := by
  obtain ⟨_, h2, h3⟩ := checkT_all h
  have hm : (24 : Nat) ≤ maxLen := by decide
  refine ⟨by have := (locE_ok h2).2.2.2.1; omega, fun x hx => by have := (locE_ok (h3 x hx).2).2.2.2.1; omega⟩
theorem okT_dec (S : List UInt8) : okT (decV S).1 := by
  by_cases h : (decV S).2 = 0
  · exact okT_chk (decV_ok h).1
  · rw [decV_no h]; exact ⟨by decide, by intro x hx; cases hx⟩
end Go.Proofs.Ytmbebimingkfeaa
