/-
  Lines of texts as plain data: fields, splitting, joining: no program in sight. No condition.
-/
import Derived.Test.YtgjchdhdopgkkaaDoorATabB
import Derived.Test.YtgjchdhdopgkkaaDoorAbsF
set_option linter.unusedVariables false
set_option linter.unusedSimpArgs false
namespace Go.Proofs.YtgjchdhdopgkkaaDoor
open Go.Ab
abbrev Bs := List UInt8
def bA (l : Bs) : ByteArray := ⟨l.toArray⟩
def aB (s : ByteArray) : Bs := s.data.toList
theorem aB_bA (l : Bs) : aB (bA l) = l := rfl
theorem bA_aB (s : ByteArray) : bA (aB s) = s := rfl
theorem aB_len (s : ByteArray) : (aB s).length = s.size := rfl
theorem bA_size (l : Bs) : (bA l).size = l.length := rfl
theorem aB_inj {a b : ByteArray} (h : aB a = aB b) : a = b := by rw [← bA_aB a, h, bA_aB]
theorem bA_inj {a b : Bs} (h : bA a = bA b) : a = b := by rw [← aB_bA a, h, aB_bA]
theorem bA_app (a b : Bs) : bA a ++ bA b = bA (a ++ b) := by
  apply ByteArray.ext
  rw [ByteArray.data_append]
  show a.toArray ++ b.toArray = (a ++ b).toArray
  simp
theorem aB_app (a b : ByteArray) : aB (a ++ b) = aB a ++ aB b := by
  rw [← bA_aB a, ← bA_aB b, bA_app]; rfl
theorem bA_ext (s : ByteArray) (a b : Nat) : s.extract a b = bA (((aB s).drop a).take (b - a)) := by
  apply ByteArray.ext
  rw [ByteArray.data_extract]
  apply Array.ext'
  rw [Array.toList_extract, List.extract_eq_take_drop]
  rfl
theorem aB_at {s : ByteArray} {k : Nat} (h : k < s.size) : (aB s).drop k = byteAt s k :: (aB s).drop (k + 1) := by
  have h' : k < s.data.toList.length := h
  unfold aB byteAt
  rw [List.drop_eq_getElem_cons h', List.getD_eq_getElem?_getD, List.getElem?_eq_getElem h']
  rfl
theorem aB_end {s : ByteArray} {k : Nat} (h : s.size ≤ k) : (aB s).drop k = [] := List.drop_of_length_le h
theorem byte_lt (c : UInt8) : (0 : Int) ≤ (c.toNat : Int) ∧ (c.toNat : Int) < 256 := by have := c.toNat_lt; omega

def blkN (n : Int) : Bool := decide (n = 32 ∨ n = 9)
def plnN (n : Int) : Bool := decide (32 ≤ n ∧ n ≤ 126 ∨ n = 9)
def moreL : Bs → Bool
  | [] => false
  | c :: _ => decide ((c.toNat : Int) ≠ 35)
def headN : Bs → Int
  | [] => 0
  | c :: _ => c.toNat
/-- bytes of which p says that they go on, how many; none: one of them is not plain -/
def runL (p : Int → Bool) : Bs → Option Nat
  | [] => some 0
  | c :: l => if p c.toNat = true then (if plnN c.toNat = true then (runL p l).map (· + 1) else none) else some 0
theorem runL_le {p : Int → Bool} : ∀ {l : Bs} {n : Nat}, runL p l = some n → n ≤ l.length
  | [], n, h => by simp [runL] at h; omega
  | c :: l, n, h => by
    unfold runL at h
    split at h
    · split at h
      · rw [Option.map_eq_some_iff] at h
        obtain ⟨m, hm, rfl⟩ := h
        have := runL_le hm
        simp; omega
      · cases h
    · simp at h; subst h; omega
theorem runL_end {p : Int → Bool} {s : ByteArray} {k : Nat} (h : s.size ≤ k) : runL p ((aB s).drop k) = some 0 := by rw [aB_end h]; rfl
theorem runL_stop {p : Int → Bool} {s : ByteArray} {k : Nat} (h : k < s.size) (hp : p (byteAt s k).toNat = false) : runL p ((aB s).drop k) = some 0 := by
  rw [aB_at h, runL, if_neg (by simp [hp])]
theorem runL_bad {p : Int → Bool} {s : ByteArray} {k : Nat} (h : k < s.size) (hp : p (byteAt s k).toNat = true) (hq : plnN (byteAt s k).toNat = false) : runL p ((aB s).drop k) = none := by
  rw [aB_at h, runL, if_pos hp, if_neg (by simp [hq])]
theorem runL_go {p : Int → Bool} {s : ByteArray} {k : Nat} (h : k < s.size) (hp : p (byteAt s k).toNat = true) (hq : plnN (byteAt s k).toNat = true) : runL p ((aB s).drop k) = (runL p ((aB s).drop (k + 1))).map (· + 1) := by
  rw [aB_at h, runL, if_pos hp, if_pos hq]
theorem moreL_at {s : ByteArray} {k : Nat} : moreL ((aB s).drop k) = (decide (k < s.size) && decide (((byteAt s k).toNat : Int) ≠ 35)) := by
  rcases Nat.lt_or_ge k s.size with h | h
  · rw [aB_at h, moreL]; simp [h]
  · rw [aB_end h, moreL]; simp [Nat.not_lt.2 h]
theorem headN_at {s : ByteArray} {k : Nat} (h : k < s.size) : headN ((aB s).drop k) = ((byteAt s k).toNat : Int) := by rw [aB_at h]; rfl

def quoP (n : Int) : Bool := decide (n ≠ 34)
def fldP (n : Int) : Bool := !blkN n && decide (n ≠ 35) && decide (n ≠ 34)
/-- a field that begins here: where its text begins, how long it is, how many bytes it takes; none: it is none -/
def fieldL : Bs → Option (Nat × Nat × Nat)
  | [] => none
  | c :: l => if (c.toNat : Int) = 34 then
      match runL quoP l with
      | none => none
      | some n => if n = l.length then none else if moreL (l.drop (n + 1)) = true ∧ blkN (headN (l.drop (n + 1))) = false then none else some (1, n, n + 2)
    else match runL fldP (c :: l) with
      | none => none
      | some n => if moreL ((c :: l).drop n) = true ∧ headN ((c :: l).drop n) = 34 then none else some (0, n, n)
def cutF (l : Bs) (x : Nat × Nat × Nat) : ByteArray := bA ((l.drop x.1).take x.2.1)
def skipN (l : Bs) : Nat := (l.takeWhile fun c => blkN c.toNat).length
/-- the fields of a line behind those that there are; what is wrong -/
def fldsL : Nat → List ByteArray → Bs → List ByteArray × Int
  | 0, acc, _ => (acc, 0)
  | k + 1, acc, l => if moreL (l.drop (skipN l)) = true then
      match fieldL (l.drop (skipN l)) with
      | none => ([], 1)
      | some x => if 24 < x.2.1 ∨ 12 < acc.length + 1 then ([], 2) else fldsL k (acc ++ [cutF (l.drop (skipN l)) x]) ((l.drop (skipN l)).drop x.2.2)
    else (acc, 0)
def lineL (l : Bs) : List ByteArray × Int := fldsL 13 [] l
theorem runL_blk : ∀ l : Bs, runL blkN l = some (skipN l)
  | [] => rfl
  | c :: l => by
    unfold runL skipN
    by_cases h : blkN c.toNat = true
    · have hp : plnN c.toNat = true := by unfold blkN at h; unfold plnN; simp at h ⊢; omega
      rw [if_pos h, if_pos hp, runL_blk l]
      simp [skipN, List.takeWhile_cons, h]
    · rw [if_neg h]
      simp [List.takeWhile_cons, h]
theorem fieldL_le {l : Bs} {x : Nat × Nat × Nat} (h : fieldL l = some x) : x.1 + x.2.1 ≤ x.2.2 ∧ x.2.2 ≤ l.length ∧ (x.1 = 0 ∨ x.1 = 1) := by
  cases l with
  | nil => cases h
  | cons c l =>
    by_cases hc : (c.toNat : Int) = 34
    · rw [fieldL, if_pos hc] at h
      cases hr : runL quoP l with
      | none => rw [hr] at h; cases h
      | some n =>
        have := runL_le hr
        rw [hr] at h
        simp only at h
        split at h
        · cases h
        · split at h
          · cases h
          · rename_i h1 _
            cases h
            refine ⟨by simp; omega, by simp; omega, .inr rfl⟩
    · rw [fieldL, if_neg hc] at h
      cases hr : runL fldP (c :: l) with
      | none => rw [hr] at h; cases h
      | some n =>
        have := runL_le hr
        rw [hr] at h
        simp only at h
        split at h
        · cases h
        · cases h
          exact ⟨by simp, this, .inl rfl⟩
end Go.Proofs.YtgjchdhdopgkkaaDoor
