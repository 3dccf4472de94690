/-
  Tables as bytes, on plain data: no program in sight. No condition.
-/
import Derived.Test.YtmbebimingkfeaaAPlain
import Derived.Test.YtmbebimingkfeaaAbsE
set_option linter.unusedVariables false
set_option linter.unusedSimpArgs false
set_option maxRecDepth 100000
namespace Go.Proofs.Ytmbebimingkfeaa
open Go.Ab Civ
/-- a number's bytes, the lesser ones first -/
def le : Nat → Int → List UInt8
  | 0, _ => []
  | k + 1, n => UInt8.ofNat (n % 256).toNat :: le k (n / 256)
theorem le_len : ∀ (k : Nat) (n : Int), (le k n).length = k
  | 0, _ => rfl
  | k + 1, n => by simp [le, le_len k]
/-- the number of bytes -/
def nm : List UInt8 → Int
  | [] => 0
  | b :: l => (b.toNat : Int) + 256 * nm l
theorem nm_bd : ∀ l : List UInt8, 0 ≤ nm l ∧ nm l < 256 ^ l.length
  | [] => by simp [nm]
  | b :: l => by
    have h := nm_bd l
    have hb := b.toNat_lt
    simp only [nm, List.length_cons, Int.pow_succ]
    omega
theorem nm_le : ∀ (k : Nat) (n : Int), 0 ≤ n → n < 256 ^ k → nm (le k n) = n
  | 0, n, h0, h1 => by simp at h1; simp [nm, le]; omega
  | k + 1, n, h0, h1 => by
    have h2 : n / 256 < 256 ^ k := by rw [Int.pow_succ] at h1; omega
    have := nm_le k (n / 256) (by omega) h2
    simp only [le, nm, this]
    have hm : (UInt8.ofNat (n % 256).toNat).toNat = (n % 256).toNat := by
      rw [UInt8.toNat_ofNat']
      exact Nat.mod_eq_of_lt (by omega)
    rw [hm]
    omega
/-- which one a Local is -/
def idx : List Loc → Loc → Nat
  | [], _ => 0
  | a :: K, l => if a = l then 0 else idx K l + 1
theorem idx_le : ∀ (K : List Loc) (l : Loc), idx K l ≤ K.length
  | [], _ => Nat.le_refl _
  | a :: K, l => by
    have := idx_le K l
    unfold idx
    split <;> simp <;> omega
theorem idx_at : ∀ {K : List Loc} {l : Loc} (h : idx K l < K.length), K[idx K l] = l
  | [], _, h => by simp at h
  | a :: K, l, h => by
    by_cases e : a = l
    · simp [idx, e]
    · have h1 : idx (a :: K) l = idx K l + 1 := by rw [idx, if_neg e]
      simp only [h1, List.getElem_cons_succ]
      exact idx_at (by rw [h1] at h; simpa using h)
theorem idx_step {K : List Loc} {l : Loc} {k : Nat} (hk : k < K.length) (hi : k ≤ idx K l) (h : K[k] ≠ l) : k + 1 ≤ idx K l := by
  rcases Nat.lt_or_ge k (idx K l) with h1 | h1
  · exact h1
  · have e : idx K l = k := by omega
    have := idx_at (K := K) (l := l) (by omega)
    simp only [e] at this
    exact absurd this h
theorem idx_no : ∀ {K : List Loc} {l : Loc} {k : Nat} (hk : k < K.length), K[k] = l → idx K l ≤ k
  | [], _, _, hk, _ => by simp at hk
  | a :: K, l, 0, _, h => by simp at h; simp [idx, h]
  | a :: K, l, k + 1, hk, h => by
    have := idx_no (K := K) (l := l) (k := k) (by simpa using hk) (by simpa using h)
    unfold idx
    split <;> omega
theorem idx_pre : ∀ {K M : List Loc} {l : Loc}, idx K l < K.length → idx (K ++ M) l = idx K l
  | [], _, _, h => by simp at h
  | a :: K, M, l, h => by
    simp only [List.cons_append]
    by_cases e : a = l
    · simp [idx, e]
    · have h1 : idx (a :: K) l = idx K l + 1 := by rw [idx, if_neg e]
      rw [h1] at h ⊢
      rw [idx, if_neg e, idx_pre (by simpa using h)]
def addK (K : List Loc) (l : Loc) : List Loc := if idx K l < K.length then K else K ++ [l]
theorem addK_pre (K : List Loc) (l : Loc) : ∃ M, addK K l = K ++ M := by
  unfold addK
  split
  · exact ⟨[], by simp⟩
  · exact ⟨[l], rfl⟩
theorem idx_app_self : ∀ {K : List Loc} {l : Loc}, ¬ idx K l < K.length → idx (K ++ [l]) l = K.length
  | [], l, _ => by simp [idx]
  | a :: K, l, h => by
    by_cases e : a = l
    · exfalso; apply h; simp [idx, e]
    · have h1 : idx (a :: K) l = idx K l + 1 := by rw [idx, if_neg e]
      rw [h1] at h
      simp only [List.cons_append, List.length_cons]
      rw [idx, if_neg e, idx_app_self (by simpa using h)]
theorem addK_idx (K : List Loc) (l : Loc) : idx (addK K l) l = idx K l ∧ idx K l < (addK K l).length := by
  unfold addK
  split
  · rename_i h; exact ⟨rfl, h⟩
  · rename_i h
    have := idx_le K l
    refine ⟨by rw [idx_app_self h]; omega, by simp; omega⟩
theorem addK_at (K : List Loc) (l : Loc) : (addK K l)[idx K l]? = some l := by
  obtain ⟨h1, h2⟩ := addK_idx K l
  rw [List.getElem?_eq_getElem h2]
  congr 1
  have := idx_at (K := addK K l) (l := l) (by rw [h1]; exact h2)
  simpa [h1] using this
theorem addK_len (K : List Loc) (l : Loc) : K.length ≤ (addK K l).length ∧ (addK K l).length ≤ K.length + 1 := by
  unfold addK
  split <;> simp
def ksOf : List Loc → List Chg → List Loc
  | K, [] => K
  | K, c :: cs => ksOf (addK K c.2) cs
def isOf : List Loc → List Chg → List Nat
  | _, [] => []
  | K, c :: cs => idx K c.2 :: isOf (addK K c.2) cs
theorem isOf_len : ∀ (K : List Loc) (l : List Chg), (isOf K l).length = l.length
  | _, [] => rfl
  | K, c :: cs => by simp [isOf, isOf_len]
theorem ksOf_pre : ∀ (K : List Loc) (l : List Chg), ∃ M, ksOf K l = K ++ M
  | K, [] => ⟨[], by simp [ksOf]⟩
  | K, c :: cs => by
    obtain ⟨M, h⟩ := ksOf_pre (addK K c.2) cs
    obtain ⟨M', h'⟩ := addK_pre K c.2
    exact ⟨M' ++ M, by rw [ksOf, h, h', List.append_assoc]⟩
theorem ksOf_len : ∀ (K : List Loc) (l : List Chg), (ksOf K l).length ≤ K.length + l.length
  | K, [] => by simp [ksOf]
  | K, c :: cs => by
    have h1 := ksOf_len (addK K c.2) cs
    have h2 := addK_len K c.2
    simp only [ksOf, List.length_cons]
    omega
/-- each change's kind is found where it is told -/
theorem isOf_at : ∀ (K : List Loc) (l : List Chg) (k : Nat) (h : k < l.length), (ksOf K l)[(isOf K l)[k]'(by rw [isOf_len]; exact h)]? = some l[k].2
  | K, [], k, h => by simp at h
  | K, c :: cs, 0, h => by
    simp only [isOf, ksOf, List.getElem_cons_zero]
    obtain ⟨M, e⟩ := ksOf_pre (addK K c.2) cs
    rw [e, List.getElem?_append_left (addK_idx K c.2).2]
    exact addK_at K c.2
  | K, c :: cs, k + 1, h => by
    simp only [isOf, ksOf, List.getElem_cons_succ]
    exact isOf_at (addK K c.2) cs k (by simpa using h)
theorem isOf_lt (K : List Loc) (l : List Chg) (k : Nat) (h : k < l.length) : (isOf K l)[k]'(by rw [isOf_len]; exact h) < (ksOf K l).length := (List.getElem?_eq_some_iff.1 (isOf_at K l k h)).1
def encL (l : Loc) : List UInt8 := le 3 (l.1 + 100000) ++ (le 2 l.2.1 ++ (le 1 l.2.2.size ++ l.2.2.data.toList))
def encC (p : Chg × Nat) : List UInt8 := le 5 (p.1.1 + 274877906944) ++ le 2 p.2
def kinds (t : Tab) : List Loc := ksOf [t.1] t.2
def kindI (t : Tab) : List Nat := isOf [t.1] t.2
/-- a table's bytes -/
def enc (t : Tab) : List UInt8 := le 2 (kinds t).length ++ ((kinds t).flatMap encL ++ (le 2 0 ++ (le 2 t.2.length ++ (t.2.zip (kindI t)).flatMap encC)))
theorem kinds_0 (t : Tab) : (kinds t)[0]? = some t.1 := by
  obtain ⟨M, h⟩ := ksOf_pre [t.1] t.2
  unfold kinds
  rw [h]; rfl
theorem kinds_pos (t : Tab) : 0 < (kinds t).length := by
  obtain ⟨M, h⟩ := ksOf_pre [t.1] t.2
  unfold kinds
  rw [h]; simp
theorem kinds_len (t : Tab) : (kinds t).length ≤ 1 + t.2.length := by
  have := ksOf_len [t.1] t.2
  simpa [kinds] using this
theorem ksOf_all {p : Loc → Prop} : ∀ (K : List Loc) (l : List Chg), (∀ x ∈ K, p x) → (∀ c ∈ l, p c.2) → ∀ x ∈ ksOf K l, p x
  | K, [], hK, _ => hK
  | K, c :: cs, hK, hl => by
    refine ksOf_all (addK K c.2) cs ?_ (fun d hd => hl d (by simp [hd]))
    intro x hx
    unfold addK at hx
    split at hx
    · exact hK x hx
    · rcases List.mem_append.1 hx with h | h
      · exact hK x h
      · simp at h; subst h; exact hl c (by simp)
/-- what is right is within bounds -/
theorem chk_all : ∀ {a : Int} {l : Loc} {cs : List Chg}, chk a l cs = 0 → ∀ c ∈ cs, timeB c.1 = true ∧ locE c.2 = 0
  | a, l, [], _, c, hc => by simp at hc
  | a, l, d :: cs, h, c, hc => by
    rw [chk] at h
    split at h
    · cases h
    · split at h
      · cases h
      · split at h
        · rename_i h1 _ h3; exact absurd h h3
        · split at h
          · cases h
          · rename_i h1 _ h3 _
            rcases List.mem_cons.1 hc with rfl | hc
            · exact ⟨by simpa using h1, Decidable.of_not_not h3⟩
            · exact chk_all h c hc
theorem checkT_all {t : Tab} (h : checkT t = 0) : t.2.length ≤ 1000 ∧ locE t.1 = 0 ∧ ∀ c ∈ t.2, timeB c.1 = true ∧ locE c.2 = 0 := by
  unfold checkT at h
  split at h
  · cases h
  · split at h
    · rename_i h1 h2; exact absurd h h2
    · rename_i h1 h2; exact ⟨by omega, Decidable.of_not_not h2, chk_all h⟩
end Go.Proofs.Ytmbebimingkfeaa
