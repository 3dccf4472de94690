/-
  How the proof's plain values lie in memory, what code and calls do to them: the frame. No condition.
-/
import Derived.Test.YtgjchdhdopgkkaaDoorGlob
import Derived.Calls
import Derived.Below
import Derived.Laws.AppendOwn
import Derived.Deep.LoopGhost
import Derived.Scope
set_option linter.unusedVariables false
set_option linter.unusedSimpArgs false
namespace Go.Ab
section
inductive AV where
  | v (x : Value) | any
  | sl (n st : Nat) (full : Bool) (cells : List AV)
  | own (id ver n : Nat)
  | ptr (id ver off : Nat)
  | rp (cells : List AV)
  | agg (cells : List AV)
  | tup (vs : List AV)
  | clo (fn : Fn) (captured : List AV)
  deriving Inhabited

inductive Ent where
  | mk (ver ty stride : Nat) (cells : List AV)
  | gone
  | free
  deriving Inhabited
abbrev AH := List Ent

structure Gh where
  D : Nat → Prop
  loc : Nat → Nat → Option (Option Addr × Nat)
  df : List Deferred

mutual
def Rep (w : World) (g : Gh) : AV → Value → Prop
  | .v x, y => y = x
  | .any, _ => True
  | .sl n st full cells, y => cells.length = n * st ∧ ∃ A cap, y = .slice A n cap ∧ n ≤ cap ∧ cap ≤ maxLen ∧ (full = true → n = cap) ∧ (A = none → cap = 0) ∧
      (cells ≠ [] → ∃ b off, A = some ⟨b, off, none⟩ ∧ g.D b ∧ RepC w g cells b off)
  | .own id ver n, y => ∃ A cap, g.loc id ver = some (A, cap) ∧ n ≤ cap ∧ cap ≤ maxLen ∧ y = .slice A n cap
  | .ptr id ver off, y => ∃ b cap, g.loc id ver = some (some ⟨b, 0, none⟩, cap) ∧ y = .pointer (some ⟨b, off, none⟩)
  | .rp cells, y => ∃ b off, y = .pointer (some ⟨b, off, none⟩) ∧ g.D b ∧ RepC w g cells b off
  | .agg cells, y => ∃ vs : Array Value, y = .agg vs ∧ RepL w g cells vs.toList
  | .tup l, y => ∃ vs : Array Value, y = .tuple vs ∧ RepL w g l vs.toList
  | .clo fn l, y => ∃ vs : Array Value, y = .func fn #[] vs ∧ RepL w g l vs.toList
def RepC (w : World) (g : Gh) : List AV → Nat → Nat → Prop
  | [], _, _ => True
  | c :: cs, b, off => (∃ u, w.cell? ⟨b, off, none⟩ = some u ∧ Rep w g c u) ∧ RepC w g cs b (off + 1)
def RepL (w : World) (g : Gh) : List AV → List Value → Prop
  | [], vs => vs = []
  | c :: cs, vs => ∃ u us, vs = u :: us ∧ Rep w g c u ∧ RepL w g cs us
end

structure Gh.le (g g' : Gh) : Prop where
  D : ∀ k, g.D k → g'.D k
  loc : ∀ id ver l, g.loc id ver = some l → g'.loc id ver = some l
theorem Gh.le.refl (g : Gh) : g.le g := ⟨fun _ h => h, fun _ _ _ h => h⟩
theorem Gh.le.trans {a b c : Gh} (h : a.le b) (k : b.le c) : a.le c := ⟨fun _ x => k.D _ (h.D _ x), fun _ _ _ x => k.loc _ _ _ (h.loc _ _ _ x)⟩

mutual
theorem Rep.mono {w w' : World} {g g' : Gh} (hg : g.le g') (hw : ∀ k, g.D k → w'.heap[k]? = w.heap[k]?) : ∀ (c : AV) (y : Value), Rep w g c y → Rep w' g' c y
  | .v x, y, h => by simp only [Rep] at h ⊢; exact h
  | .any, y, h => by simp only [Rep]
  | .sl n st full cells, y, h => by
    simp only [Rep] at h ⊢
    obtain ⟨h0, A, cap, h1, h2, h3, h4, h5, h6⟩ := h
    refine ⟨h0, A, cap, h1, h2, h3, h4, h5, fun hne => ?_⟩
    obtain ⟨b, off, e, hd, hc⟩ := h6 hne
    exact ⟨b, off, e, hg.D _ hd, RepC.mono hg hw cells b off hd hc⟩
  | .own id ver n, y, h => by
    simp only [Rep] at h ⊢
    obtain ⟨A, cap, h1, h2⟩ := h
    exact ⟨A, cap, hg.loc _ _ _ h1, h2⟩
  | .ptr id ver off, y, h => by
    simp only [Rep] at h ⊢
    obtain ⟨b, cap, h1, h2⟩ := h
    exact ⟨b, cap, hg.loc _ _ _ h1, h2⟩
  | .rp cells, y, h => by
    simp only [Rep] at h ⊢
    obtain ⟨b, off, e, hd, hc⟩ := h
    exact ⟨b, off, e, hg.D _ hd, RepC.mono hg hw cells b off hd hc⟩
  | .agg cells, y, h => by
    simp only [Rep] at h ⊢
    obtain ⟨vs, e, hc⟩ := h
    exact ⟨vs, e, RepL.mono hg hw cells _ hc⟩
  | .tup cells, y, h => by
    simp only [Rep] at h ⊢
    obtain ⟨vs, e, hc⟩ := h
    exact ⟨vs, e, RepL.mono hg hw cells _ hc⟩
  | .clo fn cells, y, h => by
    simp only [Rep] at h ⊢
    obtain ⟨vs, e, hc⟩ := h
    exact ⟨vs, e, RepL.mono hg hw cells _ hc⟩
theorem RepC.mono {w w' : World} {g g' : Gh} (hg : g.le g') (hw : ∀ k, g.D k → w'.heap[k]? = w.heap[k]?) : ∀ (cs : List AV) (b off : Nat), g.D b → RepC w g cs b off → RepC w' g' cs b off
  | [], _, _, _, _ => by simp only [RepC]
  | c :: cs, b, off, hd, h => by
    simp only [RepC] at h ⊢
    obtain ⟨⟨u, h1, h2⟩, h3⟩ := h
    exact ⟨⟨u, (World.cell?_of_block (a := ⟨b, off, none⟩) (hw b hd)).trans h1, Rep.mono hg hw c u h2⟩, RepC.mono hg hw cs b (off + 1) hd h3⟩
theorem RepL.mono {w w' : World} {g g' : Gh} (hg : g.le g') (hw : ∀ k, g.D k → w'.heap[k]? = w.heap[k]?) : ∀ (cs : List AV) (vs : List Value), RepL w g cs vs → RepL w' g' cs vs
  | [], _, h => by simp only [RepL] at h ⊢; exact h
  | c :: cs, vs, h => by
    simp only [RepL] at h ⊢
    obtain ⟨u, us, e, h1, h2⟩ := h
    exact ⟨u, us, e, Rep.mono hg hw c u h1, RepL.mono hg hw cs us h2⟩
end

/-- entry i of the proof's heap holds block k -/
def OwAt (g : Gh) (h : AH) (i k : Nat) : Prop := ∃ ver ty s c b cap, h[i]? = some (.mk ver ty s c) ∧ g.loc i ver = some (some b, cap) ∧ cap ≠ 0 ∧ b.block = k
def Ow (g : Gh) (h : AH) (k : Nat) : Prop := ∃ i, OwAt g h i k

/-- an entry's row in memory -/
def EntAt (w : World) (g : Gh) (ty stride : Nat) (cells : List AV) (A : Option Addr) (cap : Nat) : Prop :=
  (cells = [] ∧ cap = 0) ∨ ∃ b arr, A = some ⟨b, 0, none⟩ ∧ cap ≠ 0 ∧ ¬ g.D b ∧ w.heap[b]? = some (.cells arr ty (0, 0)) ∧ arr.size = cap * stride ∧ cells.length ≤ arr.size ∧ RepL w g cells (arr.toList.take cells.length)

/-- the variables that are read lie where they lie, and are read alone -/
structure GlobOk (w : World) (g : Gh) : Prop where
  w : GlobW w
  d : ∀ k ∈ GlobK, g.D k
theorem GlobOk.mono {w w' : World} {g g' : Gh} (h : GlobOk w g) (hD : ∀ k, g.D k → g'.D k) (hw : ∀ k, g.D k → w'.heap[k]? = w.heap[k]?) : GlobOk w' g' :=
  ⟨h.w.keep fun k hk => hw k (h.d k hk), fun k hk => hD k (h.d k hk)⟩
/-- the heap of the proof lies in memory -/
structure SimH (w : World) (g : Gh) (h : AH) : Prop where
  ent : ∀ id ver ty stride cells, h[id]? = some (.mk ver ty stride cells) → ∃ A cap, g.loc id ver = some (A, cap) ∧ cap ≤ maxLen ∧ EntAt w g ty stride cells A cap
  inj : ∀ i j k, OwAt g h i k → OwAt g h j k → i = j
  lt : ∀ k, g.D k → k < w.heap.size
  fresh : ∀ id ver l, g.loc id ver = some l → id < h.length ∧ ∀ v' ty s c, h[id]? = some (.mk v' ty s c) → ver ≤ v'
  free : ∀ id ver l, g.loc id ver = some l → h[id]? ≠ some .free
  glob : GlobOk w g

/-- what a piece of code leaves as it was: all old blocks but some -/
structure Fr (w : World) (S : Nat → Prop) (w' : World) : Prop where
  os : w'.os = w.os
  tape : w'.tape = w.tape
  output : w'.output = w.output
  size : w.heap.size ≤ w'.heap.size
  block : ∀ k, k < w.heap.size → ¬ S k → w'.heap[k]? = w.heap[k]?
theorem Fr.refl (w : World) (S : Nat → Prop) : Fr w S w := ⟨rfl, rfl, rfl, Nat.le_refl _, fun _ _ _ => rfl⟩
theorem Fr.trans {a b c : World} {S T : Nat → Prop} (h : Fr a S b) (k : Fr b T c) (hs : ∀ i, T i → i < a.heap.size → S i) : Fr a S c :=
  ⟨k.os.trans h.os, k.tape.trans h.tape, k.output.trans h.output, Nat.le_trans h.size k.size, fun i hi hn => (k.block i (Nat.lt_of_lt_of_le hi h.size) (fun ht => hn (hs i ht hi))).trans (h.block i hi hn)⟩

end
section
theorem Gh.le_of_put {g g' : Gh} (hD : g'.D = g.D) (hloc : ∀ i v l, g.loc i v = some l → g'.loc i v = some l) : g.le g' := ⟨fun k h => by rw [hD]; exact h, hloc⟩

theorem SimH.own_not_D {w : World} {g : Gh} {h : AH} (hs : SimH w g h) {k : Nat} (hk : Ow g h k) : ¬ g.D k ∧ k < w.heap.size := by
  obtain ⟨id, ver, ty, s, c, b, cap, h1, h2, h3, h4⟩ := hk
  obtain ⟨A, cap', e1, _, e3⟩ := hs.ent _ _ _ _ _ h1
  rw [h2] at e1
  simp only [Option.some.injEq, Prod.mk.injEq] at e1
  obtain ⟨rfl, rfl⟩ := e1
  rcases e3 with ⟨_, h0⟩ | ⟨b', arr, e, _, hd, hb, _⟩
  · exact absurd h0 h3
  · cases e
    subst h4
    exact ⟨hd, (Array.getElem?_eq_some_iff.1 hb).1⟩

theorem EntAt.mono {w w' : World} {g g' : Gh} {ty stride : Nat} {cells : List AV} {A : Option Addr} {cap : Nat} (h : EntAt w g ty stride cells A cap) (hg : g.le g') (hd : ∀ k, A.map (·.block) = some k → cap ≠ 0 → g'.D k → g.D k)
    (hw : ∀ k, g.D k → w'.heap[k]? = w.heap[k]?) (hb : ∀ k, A.map (·.block) = some k → cap ≠ 0 → w'.heap[k]? = w.heap[k]?) : EntAt w' g' ty stride cells A cap := by
  refine h.imp id ?_
  rintro ⟨b, arr, rfl, f0, f2, f3, f4, f5, f6⟩
  exact ⟨b, arr, rfl, f0, fun h => f2 (hd b rfl f0 h), by rw [hb b rfl f0]; exact f3, f4, f5, RepL.mono hg hw _ _ f6⟩

/-- one entry is new or other, the rest is as it was -/
theorem SimH.put {w w' : World} {g g' : Gh} {h h' : AH} (hs : SimH w g h) (id ver ty stride : Nat) (cells : List AV) (A : Option Addr) (cap : Nat)
    (hl : ∀ i, i ≠ id → h'[i]? = h[i]?) (h0 : h'[id]? = some (.mk ver ty stride cells)) (hlen : h.length ≤ h'.length)
    (hD : g'.D = g.D) (hloc : ∀ i v l, g.loc i v = some l → g'.loc i v = some l) (hloc' : ∀ i v l, g'.loc i v = some l → g.loc i v = some l ∨ (i = id ∧ v = ver))
    (hA : g'.loc id ver = some (A, cap)) (hver : ∀ v l, g.loc id v = some l → v ≤ ver)
    (hw : ∀ k, g.D k ∨ (∃ i, i ≠ id ∧ OwAt g h i k) → w'.heap[k]? = w.heap[k]?) (hsz : w.heap.size ≤ w'.heap.size)
    (hcap : cap ≤ maxLen) (he : EntAt w' g' ty stride cells A cap) (hne : ∀ k, A.map (·.block) = some k → cap ≠ 0 → ∀ i, i ≠ id → ¬ OwAt g h i k) : SimH w' g' h' ∧ g.le g' ∧ ∀ k, Ow g' h' k → Ow g h k ∨ (A.map (·.block) = some k ∧ cap ≠ 0) := by
  have hle : g.le g' := Gh.le_of_put hD hloc
  have hid : id < h'.length := (List.getElem?_eq_some_iff.1 h0).1
  have back : ∀ i k, i ≠ id → OwAt g' h' i k → OwAt g h i k := by
    rintro i k hii ⟨v, ty', s, c, b, cap', e1, e2, e3, e4⟩
    rw [hl i hii] at e1
    exact ⟨v, ty', s, c, b, cap', e1, (hloc' _ _ _ e2).resolve_right (fun h => hii h.1), e3, e4⟩
  have mine : ∀ k, OwAt g' h' id k → A.map (·.block) = some k ∧ cap ≠ 0 := by
    rintro k ⟨v, ty', s, c, b, cap', e1, e2, e3, e4⟩
    rw [h0] at e1
    cases e1
    rw [hA] at e2
    simp only [Option.some.injEq, Prod.mk.injEq] at e2
    obtain ⟨rfl, rfl⟩ := e2
    exact ⟨by simpa using e4, e3⟩
  refine ⟨⟨?_, ?_, ?_, ?_, ?_, hs.glob.mono hle.D (fun k hk => hw k (.inl hk))⟩, hle, ?_⟩
  · intro i v ty' s' c' hi
    by_cases hii : i = id
    · subst hii
      rw [h0] at hi
      cases hi
      exact ⟨A, cap, hA, hcap, he⟩
    · rw [hl i hii] at hi
      obtain ⟨A', cap', e1, e2, e3⟩ := hs.ent _ _ _ _ _ hi
      have how : ∀ k, A'.map (·.block) = some k → cap' ≠ 0 → OwAt g h i k := by
        intro k hk h0
        cases A' with
        | none => simp at hk
        | some b => exact ⟨v, ty', s', c', b, cap', hi, e1, h0, by simpa using hk⟩
      refine ⟨A', cap', hloc _ _ _ e1, e2, e3.mono hle (fun k _ _ hk => by rw [hD] at hk; exact hk) (fun k hk => hw k (.inl hk)) (fun k hk h0 => hw k (.inr ⟨i, hii, how k hk h0⟩))⟩
  · intro i j k hi hj
    by_cases hii : i = id
    · subst hii
      by_cases hjj : j = i
      · exact hjj.symm
      · obtain ⟨h1, h2⟩ := mine k hi
        exact absurd (back j k hjj hj) (hne k h1 h2 j hjj)
    · by_cases hjj : j = id
      · subst hjj
        obtain ⟨h1, h2⟩ := mine k hj
        exact absurd (back i k hii hi) (hne k h1 h2 i hii)
      · exact hs.inj i j k (back i k hii hi) (back j k hjj hj)
  · intro k hk
    rw [hD] at hk
    exact Nat.lt_of_lt_of_le (hs.lt k hk) hsz
  · intro i v l hi
    rcases hloc' _ _ _ hi with hi' | ⟨rfl, rfl⟩
    · obtain ⟨f1, f2⟩ := hs.fresh _ _ _ hi'
      refine ⟨Nat.lt_of_lt_of_le f1 hlen, fun v' ty' s c hv => ?_⟩
      by_cases hii : i = id
      · subst hii
        rw [h0] at hv
        cases hv
        exact hver v l hi'
      · rw [hl i hii] at hv
        exact f2 _ _ _ _ hv
    · refine ⟨hid, fun v' ty' s c hv => ?_⟩
      rw [h0] at hv
      cases hv
      exact Nat.le_refl _
  · intro i v l hi
    by_cases hii : i = id
    · subst hii; rw [h0]; simp
    · rw [hl i hii]; exact hs.free i v l ((hloc' _ _ _ hi).resolve_right (fun h => hii h.1))
  · rintro k ⟨i, hi⟩
    by_cases hii : i = id
    · subst hii; exact .inr (mine k hi)
    · exact .inl ⟨i, back i k hii hi⟩

/-- the world turns elsewhere -/
theorem SimH.world {w w' : World} {g : Gh} {h : AH} (hs : SimH w g h) (hw : ∀ k, g.D k ∨ Ow g h k → w'.heap[k]? = w.heap[k]?) (hsz : w.heap.size ≤ w'.heap.size) : SimH w' g h := by
  refine ⟨?_, hs.inj, fun k hk => Nat.lt_of_lt_of_le (hs.lt k hk) hsz, hs.fresh, hs.free, hs.glob.mono (fun _ h => h) (fun k hk => hw k (.inl hk))⟩
  intro i v ty s c hi
  obtain ⟨A, cap, e1, e2, e3⟩ := hs.ent _ _ _ _ _ hi
  refine ⟨A, cap, e1, e2, e3.mono (Gh.le.refl _) (fun _ _ _ h => h) (fun k hk => hw k (.inl hk)) (fun k hk h0 => hw k (.inr ⟨i, ?_⟩))⟩
  cases A with
  | none => simp at hk
  | some b => exact ⟨v, ty, s, c, b, cap, hi, e1, h0, by simpa using hk⟩

def Gh.add (g : Gh) (id ver : Nat) (l : Option Addr × Nat) : Gh := ⟨g.D, fun i v => if i = id ∧ v = ver then some l else g.loc i v, g.df⟩

/-- a new row -/
theorem SimH.alloc {w : World} {g : Gh} {h : AH} (hs : SimH w g h) {arr : Array Value} {cells : List AV} (ty stride cap : Nat) (hr : RepL w g cells (arr.toList.take cells.length)) (hl : cells.length ≤ arr.size) (hsz : arr.size = cap * stride) (hm : cap ≤ maxLen) (h0 : cap ≠ 0) :
    SimH (w.alloc (.cells arr ty)) (g.add h.length 0 (some ⟨w.heap.size, 0, none⟩, cap)) (h ++ [.mk 0 ty stride cells]) ∧ g.le (g.add h.length 0 (some ⟨w.heap.size, 0, none⟩, cap)) ∧
      Fr w (Ow g h) (w.alloc (.cells arr ty)) ∧ ∀ k, Ow (g.add h.length 0 (some ⟨w.heap.size, 0, none⟩, cap)) (h ++ [.mk 0 ty stride cells]) k → Ow g h k ∨ w.heap.size ≤ k := by
  have hf : ∀ v l, g.loc h.length v = some l → False := fun v l hl => absurd (hs.fresh _ _ _ hl).1 (Nat.lt_irrefl _)
  have hloc : ∀ i v l, g.loc i v = some l → (g.add h.length 0 (some ⟨w.heap.size, 0, none⟩, cap)).loc i v = some l := by
    intro i v l hi
    simp only [Gh.add]
    rw [if_neg]
    · exact hi
    · rintro ⟨rfl, rfl⟩; exact hf _ _ hi
  have hle : g.le (g.add h.length 0 (some ⟨w.heap.size, 0, none⟩, cap)) := Gh.le_of_put rfl hloc
  have hold : ∀ k, k < w.heap.size → (w.alloc (.cells arr ty)).heap[k]? = w.heap[k]? := fun k hk => heap_alloc_old w _ k hk
  have how : ∀ k, g.D k ∨ (∃ i, i ≠ h.length ∧ OwAt g h i k) → k < w.heap.size := by
    rintro k (hk | ⟨i, _, hk⟩)
    · exact hs.lt k hk
    · exact (hs.own_not_D ⟨i, hk⟩).2
  suffices hq : SimH (w.alloc (.cells arr ty)) (g.add h.length 0 (some ⟨w.heap.size, 0, none⟩, cap)) (h ++ [.mk 0 ty stride cells]) ∧ g.le (g.add h.length 0 (some ⟨w.heap.size, 0, none⟩, cap)) ∧
      ∀ k, Ow (g.add h.length 0 (some ⟨w.heap.size, 0, none⟩, cap)) (h ++ [.mk 0 ty stride cells]) k → Ow g h k ∨ ((some (⟨w.heap.size, 0, none⟩ : Addr)).map (·.block) = some k ∧ cap ≠ 0) from ⟨hq.1, hq.2.1, ⟨rfl, rfl, rfl, by simp, fun k hk _ => hold k hk⟩, fun k hk => (hq.2.2 k hk).imp (fun x => x) (fun h => by have := h.1; simp at this; omega)⟩
  refine hs.put h.length 0 ty stride cells (some ⟨w.heap.size, 0, none⟩) cap ?_ ?_ ?_ rfl hloc ?_ ?_ (fun v l hl => (hf v l hl).elim) (fun k hk => hold k (how k hk)) (by simp) hm (.inr ?_) ?_
  · intro i hi
    by_cases hlt : i < h.length
    · rw [List.getElem?_append_left hlt]
    · rw [List.getElem?_eq_none (by simp; omega), List.getElem?_eq_none (by omega)]
  · simp
  · simp
  · intro i v l hi
    simp only [Gh.add] at hi
    split at hi
    · right; assumption
    · left; exact hi
  · simp [Gh.add]
  · refine ⟨w.heap.size, arr, rfl, h0, fun hd => absurd (hs.lt _ hd) (Nat.lt_irrefl _), heap_alloc_new w _, hsz, hl, RepL.mono hle (fun k hk => hold k (hs.lt k hk)) _ _ hr⟩
  · intro k hk _ i _ how
    simp at hk
    subst hk
    exact absurd (hs.own_not_D ⟨i, how⟩).2 (Nat.lt_irrefl _)

end
section
theorem RepL.length {w : World} {g : Gh} : ∀ {cs : List AV} {vs : List Value}, RepL w g cs vs → vs.length = cs.length
  | [], vs, h => by simp only [RepL] at h; simp [h]
  | c :: cs, vs, h => by
    simp only [RepL] at h
    obtain ⟨u, us, rfl, _, h2⟩ := h
    simp [RepL.length h2]
theorem RepL.get {w : World} {g : Gh} : ∀ {cs : List AV} {vs : List Value}, RepL w g cs vs → ∀ {k : Nat} {c : AV}, cs[k]? = some c → ∃ u, vs[k]? = some u ∧ Rep w g c u
  | [], _, _, k, c, hk => by simp at hk
  | c :: cs, vs, h, k, d, hk => by
    simp only [RepL] at h
    obtain ⟨u, us, rfl, h1, h2⟩ := h
    cases k with
    | zero => simp at hk; subst hk; exact ⟨u, by simp, h1⟩
    | succ k => simp at hk ⊢; exact RepL.get h2 hk
theorem RepL.set {w : World} {g : Gh} : ∀ {cs : List AV} {vs : List Value}, RepL w g cs vs → ∀ {k : Nat} {c : AV} {u : Value}, Rep w g c u → RepL w g (cs.set k c) (vs.set k u)
  | [], vs, h, k, c, u, _ => by simp only [RepL] at h; simp [h, RepL]
  | c :: cs, vs, h, k, d, u, hk => by
    simp only [RepL] at h
    obtain ⟨u', us, rfl, h1, h2⟩ := h
    cases k with
    | zero => simp only [List.set_cons_zero, RepL]; exact ⟨u, us, rfl, hk, h2⟩
    | succ k => simp only [List.set_cons_succ, RepL]; exact ⟨u', us.set k u, rfl, h1, h2.set hk⟩
theorem RepL.take {w : World} {g : Gh} : ∀ {cs : List AV} {vs : List Value} (n : Nat), RepL w g cs vs → RepL w g (cs.take n) (vs.take n)
  | [], vs, n, h => by simp only [RepL] at h; simp [h, RepL]
  | c :: cs, vs, 0, h => by simp [RepL]
  | c :: cs, vs, n + 1, h => by
    simp only [RepL] at h
    obtain ⟨u, us, rfl, h1, h2⟩ := h
    simp only [List.take_succ_cons, RepL]
    exact ⟨u, _, rfl, h1, RepL.take n h2⟩
theorem RepL.drop {w : World} {g : Gh} : ∀ {cs : List AV} {vs : List Value} (n : Nat), RepL w g cs vs → RepL w g (cs.drop n) (vs.drop n)
  | [], vs, n, h => by simp only [RepL] at h; simp [h, RepL]
  | c :: cs, vs, 0, h => h
  | c :: cs, vs, n + 1, h => by
    simp only [RepL] at h
    obtain ⟨u, us, rfl, h1, h2⟩ := h
    simpa using RepL.drop n h2
theorem RepL.append {w : World} {g : Gh} : ∀ {cs ds : List AV} {vs us : List Value}, RepL w g cs vs → RepL w g ds us → RepL w g (cs ++ ds) (vs ++ us)
  | [], ds, vs, us, h, k => by simp only [RepL] at h; simpa [h] using k
  | c :: cs, ds, vs, us, h, k => by
    simp only [RepL] at h
    obtain ⟨u, us', rfl, h1, h2⟩ := h
    simp only [List.cons_append, RepL]
    exact ⟨u, _, rfl, h1, h2.append k⟩
theorem RepC.of_row {w : World} {g : Gh} {b : Nat} {arr : Array Value} {ty : TypeId} {fr : Nat × Nat} (hb : w.heap[b]? = some (.cells arr ty fr)) :
    ∀ (cs : List AV) (off : Nat), RepL w g cs ((arr.toList.drop off).take cs.length) → RepC w g cs b off
  | [], _, _ => by simp only [RepC]
  | c :: cs, off, h => by
    simp only [RepL] at h
    obtain ⟨u, us, e, h1, h2⟩ := h
    cases hd : arr.toList.drop off with
    | nil => rw [hd] at e; simp at e
    | cons x xs =>
    rw [hd] at e
    simp only [List.length_cons, List.take_succ_cons, List.cons.injEq] at e
    obtain ⟨rfl, e1⟩ := e
    have e0 : arr[off]? = some x := by
      have := congrArg (·[0]?) hd
      simpa [List.getElem?_drop] using this
    have e2 : arr.toList.drop (off + 1) = xs := by rw [← List.tail_drop, hd]; rfl
    simp only [RepC]
    exact ⟨⟨x, by rw [cell_of_row w b off arr ty fr hb]; exact e0, h1⟩, RepC.of_row hb cs (off + 1) (by rw [e2, e1]; exact h2)⟩
theorem RepC.list {w : World} {g : Gh} : ∀ {cs : List AV} {b off : Nat}, RepC w g cs b off → ∃ us : List Value, RepL w g cs us ∧ ∀ j u, us[j]? = some u → w.cell? ⟨b, off + j, none⟩ = some u
  | [], b, off, _ => ⟨[], by simp only [RepL], by simp⟩
  | c :: cs, b, off, h => by
    simp only [RepC] at h
    obtain ⟨⟨u, h1, h2⟩, h3⟩ := h
    obtain ⟨us, g1, g2⟩ := RepC.list h3
    refine ⟨u :: us, by simp only [RepL]; exact ⟨u, us, rfl, h2, g1⟩, ?_⟩
    intro j x hx
    cases j with
    | zero => simp at hx; subst hx; exact h1
    | succ j => simp at hx; have := g2 j x hx; rw [← this]; congr 2; omega
theorem RepC.drop {w : World} {g : Gh} : ∀ {cs : List AV} {b off : Nat} (n : Nat), RepC w g cs b off → RepC w g (cs.drop n) b (off + n)
  | [], b, off, n, _ => by simp [RepC]
  | c :: cs, b, off, 0, h => h
  | c :: cs, b, off, n + 1, h => by
    simp only [RepC] at h
    have := RepC.drop n h.2
    simp only [List.drop_succ_cons]
    rw [show off + (n + 1) = off + 1 + n by omega]
    exact this
theorem RepC.take {w : World} {g : Gh} : ∀ {cs : List AV} {b off : Nat} (n : Nat), RepC w g cs b off → RepC w g (cs.take n) b off
  | [], b, off, n, _ => by simp [RepC]
  | c :: cs, b, off, 0, h => by simp [RepC]
  | c :: cs, b, off, n + 1, h => by
    simp only [RepC] at h
    simp only [List.take_succ_cons, RepC]
    exact ⟨h.1, RepC.take n h.2⟩

/-- the cells behind a pointer -/
def cellsAt (h : AH) : AV → Option (List AV)
  | .rp cs => some cs
  | .ptr id ver off => match h[id]? with
    | some (.mk v _ _ cells) => if v = ver then some (cells.drop off) else none
    | _ => none
  | _ => none
theorem cellsAt_rep {w : World} {g : Gh} {h : AH} (hs : SimH w g h) {av : AV} {y : Value} {cs : List AV} (hr : Rep w g av y) (hc : cellsAt h av = some cs) : ∃ b off, y = .pointer (some ⟨b, off, none⟩) ∧ RepC w g cs b off := by
  cases av <;> simp only [cellsAt] at hc <;> try (cases hc; done)
  case rp cs' =>
    cases hc
    simp only [Rep] at hr
    obtain ⟨b, off, e, _, h1⟩ := hr
    exact ⟨b, off, e, h1⟩
  case ptr id ver off =>
    simp only [Rep] at hr
    obtain ⟨b, cap, e1, e2⟩ := hr
    split at hc <;> try (cases hc; done)
    rename_i v ty s cells hi
    split at hc <;> try (cases hc; done)
    rename_i hv
    subst hv
    cases hc
    obtain ⟨A, cap', f1, _, f3⟩ := hs.ent _ _ _ _ _ hi
    rw [e1] at f1
    simp only [Option.some.injEq, Prod.mk.injEq] at f1
    obtain ⟨rfl, rfl⟩ := f1
    refine ⟨b, off, e2, ?_⟩
    rcases f3 with ⟨rfl, _⟩ | ⟨b', arr, e, _, _, hb, _, hl, hrl⟩
    · simp [RepC]
    · cases e
      refine RepC.of_row hb _ _ ?_
      have := hrl.drop off
      rw [List.drop_take] at this
      simpa using this

/-- the cells behind a slice: how many elements, the cells -/
def rowsAt (h : AH) : AV → Option (Nat × List AV)
  | .sl n _ _ cs => some (n, cs)
  | .own id ver n => match h[id]? with
    | some (.mk v _ s cells) => if v = ver ∧ n * s ≤ cells.length then some (n, cells.take (n * s)) else none
    | _ => none
  | _ => none
theorem rowsAt_rep {w : World} {g : Gh} {h : AH} (hs : SimH w g h) {av : AV} {y : Value} {n : Nat} {cs : List AV} (hr : Rep w g av y) (hc : rowsAt h av = some (n, cs)) :
    ∃ A cap, y = .slice A n cap ∧ n ≤ cap ∧ cap ≤ maxLen ∧ (cs ≠ [] → ∃ b off, A = some ⟨b, off, none⟩ ∧ RepC w g cs b off) := by
  cases av <;> simp only [rowsAt] at hc <;> try (cases hc; done)
  case sl n' st full cs' =>
    cases hc
    simp only [Rep] at hr
    obtain ⟨_, A, cap, e, h1, h2, _, _, h5⟩ := hr
    refine ⟨A, cap, e, h1, h2, fun hne => ?_⟩
    obtain ⟨b, off, e', _, h6⟩ := h5 hne
    exact ⟨b, off, e', h6⟩
  case own id ver n' =>
    simp only [Rep] at hr
    obtain ⟨A, cap, e1, e2, e3, e4⟩ := hr
    split at hc <;> try (cases hc; done)
    rename_i v ty s cells hi
    split at hc <;> try (cases hc; done)
    rename_i hv
    obtain ⟨rfl, hle⟩ := hv
    cases hc
    obtain ⟨A', cap', f1, _, f3⟩ := hs.ent _ _ _ _ _ hi
    rw [e1] at f1
    simp only [Option.some.injEq, Prod.mk.injEq] at f1
    obtain ⟨rfl, rfl⟩ := f1
    refine ⟨A, cap, e4, e2, e3, fun hne => ?_⟩
    rcases f3 with ⟨rfl, _⟩ | ⟨b', arr, e, _, _, hb, _, hl, hrl⟩
    · simp at hne
    · refine ⟨b', 0, e, RepC.of_row hb _ _ ?_⟩
      have := hrl.take (n * s)
      rw [List.take_take] at this
      simpa [Nat.min_eq_left hle] using this

/-- a store -/
theorem SimH.store {w : World} {g : Gh} {h : AH} (hs : SimH w g h) {id ver ty s : Nat} {cells : List AV} {b : Nat} {cap k : Nat} {c : AV} {u : Value} (hi : h[id]? = some (.mk ver ty s cells)) (hl : g.loc id ver = some (some ⟨b, 0, none⟩, cap))
    (hk : k < cells.length) (hu : Rep w g c u) :
    SimH (w.setCell ⟨b, k, none⟩ u) g (h.set id (.mk ver ty s (cells.set k c))) ∧ w.cell? ⟨b, k, none⟩ ≠ none ∧ w.frozen? ⟨b, k, none⟩ = false ∧ OwAt g h id b := by
  obtain ⟨A, cap', f1, fm, f3⟩ := hs.ent _ _ _ _ _ hi
  rw [hl] at f1
  simp only [Option.some.injEq, Prod.mk.injEq] at f1
  obtain ⟨rfl, rfl⟩ := f1
  rcases f3 with ⟨rfl, _⟩ | ⟨b', arr, e, hc0, hd, hb, hsz, hle, hrl⟩
  · simp at hk
  cases e
  have hid : id < h.length := (List.getElem?_eq_some_iff.1 hi).1
  have how : OwAt g h id b := ⟨ver, ty, s, cells, _, cap, hi, hl, hc0, rfl⟩
  have hother : ∀ j, j ≠ b → (w.setCell ⟨b, k, none⟩ u).heap[j]? = w.heap[j]? := fun j hj => heap_setCell_other w _ _ _ hj
  have hw : ∀ j, g.D j ∨ (∃ i, i ≠ id ∧ OwAt g h i j) → (w.setCell ⟨b, k, none⟩ u).heap[j]? = w.heap[j]? := by
    rintro j (hj | ⟨i, hne, hj⟩)
    · exact hother j (fun e => hd (e ▸ hj))
    · refine hother j (fun e => hne ?_)
      subst e
      exact hs.inj i id j hj how
  refine ⟨(hs.put (g' := g) id ver ty s (cells.set k c) (some ⟨b, 0, none⟩) cap ?_ ?_ ?_ rfl (fun _ _ _ h => h) (fun _ _ _ h => .inl h) hl ?_ hw (by simp) fm (.inr ?_) ?_).1, ?_, ?_, how⟩
  · intro i hne
    rw [List.getElem?_set_ne (Ne.symm hne)]
  · rw [List.getElem?_set_self hid]
  · simp
  · intro v l hv
    exact (hs.fresh _ _ _ hv).2 _ _ _ _ hi
  · refine ⟨b, arr.setIfInBounds k u, rfl, hc0, hd, heap_setCell_same w b k arr ty u hb, by simpa using hsz, by simpa using hle, ?_⟩
    have h1 := RepL.mono (Gh.le.refl g) (fun j hj => hw j (.inl hj)) _ _ hrl
    have h2 := h1.set (k := k) (Rep.mono (Gh.le.refl g) (fun j hj => hw j (.inl hj)) _ _ hu)
    rw [Array.toList_setIfInBounds, List.length_set, List.take_set]
    exact h2
  · intro j hj _ i hne ho
    simp at hj
    subst hj
    exact hne (hs.inj i id _ ho how)
  · rw [cell_of_row w b k arr ty (0, 0) hb]
    have : k < arr.size := by omega
    simp [this]
  · exact frozen_of_row w b k arr ty hb

end
section
variable {P : Program}
theorem run_append_any (w : World) (t u ty e : TypeId) (i : TypeInfo) (z : Value) (du : TypeDesc) (ht : P.underlying t = some (.slice e)) (hu : P.underlying u = some du) (hdu : du = .slice e ∨ du = .string)
    (hi : P.info? e = some i) (hz : i.zero = some z) (hzs : z.cells.size = i.size)
    (A : Option Addr) (n cap : Nat) (olds : List Value) (hlo : olds.length = n * i.size) (hn : n ≤ cap) (hcm : cap ≤ maxLen)
    (hA : cap = 0 ∨ ∃ b arr, A = some ⟨b, 0, none⟩ ∧ w.heap[b]? = some (.cells arr e (0, 0)) ∧ arr.size = cap * i.size ∧ arr.toList.take (n * i.size) = olds)
    (y : Value) (m : Nat) (news : List Value) (hl : news.length = m * i.size) (h1 : ∀ u ∈ news, u.oneCell' = true)
    (hlen : ∀ w', (Builtin.lenOf y).run P w' = .ok m w') (hf : (Builtin.firstCells i.size m y).run P w = .ok news.toArray w) (hf' : (Builtin.firstCells i.size m y).run P w.drew = .ok news.toArray w.drew)
    (h63 : n + m ≤ maxLen) (hbytes : (n + m) * i.bytes ≤ 140737488355328) :
    ∃ A' cap' w', (Builtin.append_ #[t, u] ty #[.slice A n cap, y]).run P w = .ok (.slice A' (n + m) cap') w' ∧ n + m ≤ cap' ∧ cap' ≤ maxLen ∧
      w.grownBy w' (if cap = 0 then none else A.map (·.block)) ∧
      ((cap' = 0) ∨ ∃ b' arr', A' = some ⟨b', 0, none⟩ ∧ cap' ≠ 0 ∧ w'.heap[b']? = some (.cells arr' e (0, 0)) ∧ arr'.size = cap' * i.size ∧ arr'.toList.take ((n + m) * i.size) = olds ++ news ∧
        ((w.heap.size ≤ b') ∨ (cap ≠ 0 ∧ A = some ⟨b', 0, none⟩))) := by
  have hsmall : n + m ≤ 9223372036854775807 := by simp only [maxLen] at h63; omega
  by_cases hroom : n + m ≤ cap
  · rcases hA with h0 | ⟨b, arr, rfl, hb, hsz, htk⟩
    · subst h0
      obtain rfl : n = 0 := by omega
      obtain rfl : m = 0 := by omega
      have hnews : news = [] := List.eq_nil_of_length_eq_zero (by simpa using hl)
      subst hnews
      refine ⟨A, 0, w, ?_, by omega, by simp [maxLen], ⟨rfl, rfl, rfl, Nat.le_refl _, fun _ _ _ => rfl⟩, .inl rfl⟩
      rcases hdu with rfl | rfl <;> cases A <;> simp [Builtin.append_, run_underlying ht, run_underlying hu, sizeOf, typeInfo, hi, hlen, hf, storeCells]
    · by_cases hc0 : cap = 0
      · subst hc0
        obtain rfl : n = 0 := by omega
        obtain rfl : m = 0 := by omega
        have hnews : news = [] := List.eq_nil_of_length_eq_zero (by simpa using hl)
        subst hnews
        refine ⟨some ⟨b, 0, none⟩, 0, w, ?_, by omega, by simp [maxLen], ⟨rfl, rfl, rfl, Nat.le_refl _, fun _ _ _ => rfl⟩, .inl rfl⟩
        rcases hdu with rfl | rfl <;> simp [Builtin.append_, run_underlying ht, run_underlying hu, sizeOf, typeInfo, hi, hlen, hf, storeCells]
      · have hfit : n * i.size + news.length ≤ arr.size := by rw [hl, hsz, ← Nat.add_mul]; exact Nat.mul_le_mul_right _ hroom
        have hst := run_storeCells_at P b (n * i.size) e news 0 arr w hb (by simpa using hfit) h1
        simp only [Nat.add_zero] at hst
        refine ⟨some ⟨b, 0, none⟩, cap, w.setRow b (arr.toList.take (n * i.size) ++ news ++ arr.toList.drop (n * i.size + news.length)).toArray, ?_, hroom, hcm, ?_, .inr ⟨b, _, rfl, hc0, setRow_heap w b arr _ e _ hb, ?_, ?_, .inr ⟨hc0, rfl⟩⟩⟩
        · rcases hdu with rfl | rfl <;> simp [Builtin.append_, run_underlying ht, run_underlying hu, sizeOf, typeInfo, hi, hlen, hroom, hf, Addr.add_lit, hst]
        · rw [if_neg hc0]
          exact ⟨rfl, rfl, rfl, by simp, fun k _ hk => setRow_other w b k _ (fun e => hk (by simp [e]))⟩
        · simp only [List.size_toArray, List.length_append, List.length_take, List.length_drop, Array.length_toList]
          omega
        · rw [htk, Nat.add_mul, ← hl, ← hlo, ← List.length_append]
          exact List.take_left
  · have hfo : (Builtin.firstCells i.size n (.slice A n cap)).run P w.drew = .ok olds.toArray w.drew := by
      rcases hA with h0 | ⟨b, arr, rfl, hb, hsz, htk⟩
      · subst h0
        obtain rfl : n = 0 := by omega
        have : olds = [] := List.eq_nil_of_length_eq_zero (by simpa using hlo)
        subst this
        cases A <;> simp [Builtin.firstCells, loadCells, loadCellsFrom]
      · refine run_firstCells_some w.drew i.size n ⟨b, 0, none⟩ n cap olds hlo ?_
        intro j v hj
        have : (⟨b, 0, none⟩ : Addr).add j = ⟨b, j, none⟩ := by unfold Addr.add; split <;> simp_all
        rw [this, World.cell?_drew, cell_of_row w b j arr e (0, 0) hb]
        rw [← htk, List.getElem?_take] at hj
        split at hj
        · simpa using hj
        · cases hj
    have hgf : Builtin.nextslicecap (n + m) cap * i.bytes ≤ 281474976710656 := growslice_fits (by omega) hbytes
    have h63' : ¬ (9223372036854775807 < ((n : Int) + (m : Int))) := by omega
    have h48' : ¬ (281474976710656 < Builtin.nextslicecap (n + m) cap * i.bytes) := by omega
    have hge := grownCap_ge w (n + m) cap e
    have hcm' : grownCap w (n + m) cap e ≤ maxLen := grownCap_le_maxLen w (n + m) cap e h63
    refine ⟨some ⟨w.heap.size, 0, none⟩, grownCap w (n + m) cap e, w.drew.alloc (.cells (olds.toArray ++ news.toArray ++ Builtin.zeroCells z.cells (grownCap w (n + m) cap e - (n + m))) e), ?_, hge, hcm', ?_,
      .inr ⟨w.heap.size, _, rfl, by omega, heap_alloc_new w.drew _, ?_, ?_, .inl (Nat.le_refl _)⟩⟩
    · rcases hdu with rfl | rfl <;> simp [Builtin.append_, run_underlying ht, run_underlying hu, sizeOf, typeInfo, zeroValue, hi, hz, hlen, hroom, h63', h48', Question.forced, hf', hfo, newRow, grownCap] <;> (congr 2; apply Array.ext'; simp [List.append_assoc])
    · exact ⟨rfl, rfl, rfl, by simp, fun k hk _ => heap_alloc_old w.drew _ k hk⟩
    · simp only [Array.size_append, List.size_toArray, size_zeroCells, hzs, hlo, hl, ← Nat.add_mul]
      congr 1
      omega
    · have hlen' : (olds ++ news).length = (n + m) * i.size := by rw [List.length_append, hlo, hl, Nat.add_mul]
      simp only [Array.toList_append, List.append_assoc]
      rw [← List.append_assoc, ← hlen']
      exact List.take_left

end
section
mutual
/-- every part of it names entries below n alone -/
def AV.lt (n : Nat) : AV → Bool
  | .v _ => true
  | .any => true
  | .sl _ _ _ cs => AV.ltL n cs
  | .own id _ _ => decide (id < n)
  | .ptr id _ _ => decide (id < n)
  | .rp cs => AV.ltL n cs
  | .agg cs => AV.ltL n cs
  | .tup cs => AV.ltL n cs
  | .clo _ cs => AV.ltL n cs
def AV.ltL (n : Nat) : List AV → Bool
  | [] => true
  | c :: cs => AV.lt n c && AV.ltL n cs
end
def Gh.cut (g : Gh) (n : Nat) : Gh := ⟨g.D, fun i v => if i < n then g.loc i v else none, g.df⟩
mutual
theorem Rep.cut {w : World} {g : Gh} {n : Nat} : ∀ (c : AV) (y : Value), c.lt n = true → Rep w g c y → Rep w (g.cut n) c y
  | .v x, y, _, h => by simp only [Rep] at h ⊢; exact h
  | .any, y, _, h => by simp only [Rep]
  | .sl m st full cells, y, hl, h => by
    simp only [Rep] at h ⊢
    simp only [AV.lt] at hl
    obtain ⟨h0, A, cap, h1, h2, h3, h4, h5, h6⟩ := h
    refine ⟨h0, A, cap, h1, h2, h3, h4, h5, fun hne => ?_⟩
    obtain ⟨b, off, e, hd, hc⟩ := h6 hne
    exact ⟨b, off, e, hd, RepC.cut cells b off hl hc⟩
  | .own id ver m, y, hl, h => by
    simp only [Rep] at h ⊢
    simp only [AV.lt, decide_eq_true_eq] at hl
    obtain ⟨A, cap, h1, h2⟩ := h
    exact ⟨A, cap, by simp only [Gh.cut, if_pos hl]; exact h1, h2⟩
  | .ptr id ver off, y, hl, h => by
    simp only [Rep] at h ⊢
    simp only [AV.lt, decide_eq_true_eq] at hl
    obtain ⟨b, cap, h1, h2⟩ := h
    exact ⟨b, cap, by simp only [Gh.cut, if_pos hl]; exact h1, h2⟩
  | .rp cells, y, hl, h => by
    simp only [Rep] at h ⊢
    simp only [AV.lt] at hl
    obtain ⟨b, off, e, hd, hc⟩ := h
    exact ⟨b, off, e, hd, RepC.cut cells b off hl hc⟩
  | .agg cells, y, hl, h => by
    simp only [Rep] at h ⊢
    simp only [AV.lt] at hl
    obtain ⟨vs, e, hc⟩ := h
    exact ⟨vs, e, RepL.cut cells _ hl hc⟩
  | .tup cells, y, hl, h => by
    simp only [Rep] at h ⊢
    simp only [AV.lt] at hl
    obtain ⟨vs, e, hc⟩ := h
    exact ⟨vs, e, RepL.cut cells _ hl hc⟩
  | .clo fn cells, y, hl, h => by
    simp only [Rep] at h ⊢
    simp only [AV.lt] at hl
    obtain ⟨vs, e, hc⟩ := h
    exact ⟨vs, e, RepL.cut cells _ hl hc⟩
theorem RepC.cut {w : World} {g : Gh} {n : Nat} : ∀ (cs : List AV) (b off : Nat), AV.ltL n cs = true → RepC w g cs b off → RepC w (g.cut n) cs b off
  | [], _, _, _, _ => by simp only [RepC]
  | c :: cs, b, off, hl, h => by
    simp only [RepC] at h ⊢
    simp only [AV.ltL, Bool.and_eq_true] at hl
    obtain ⟨⟨u, h1, h2⟩, h3⟩ := h
    exact ⟨⟨u, h1, Rep.cut c u hl.1 h2⟩, RepC.cut cs b (off + 1) hl.2 h3⟩
theorem RepL.cut {w : World} {g : Gh} {n : Nat} : ∀ (cs : List AV) (vs : List Value), AV.ltL n cs = true → RepL w g cs vs → RepL w (g.cut n) cs vs
  | [], _, _, h => by simp only [RepL] at h ⊢; exact h
  | c :: cs, vs, hl, h => by
    simp only [RepL] at h ⊢
    simp only [AV.ltL, Bool.and_eq_true] at hl
    obtain ⟨u, us, e, h1, h2⟩ := h
    exact ⟨u, us, e, Rep.cut c u hl.1 h1, RepL.cut cs us hl.2 h2⟩
end
mutual
theorem Rep.lt {w : World} {g : Gh} {n : Nat} (hg : ∀ i v l, g.loc i v = some l → i < n) : ∀ (c : AV) (y : Value), Rep w g c y → c.lt n = true
  | .v x, y, h => rfl
  | .any, y, h => rfl
  | .sl m st full cells, y, h => by
    simp only [Rep] at h
    simp only [AV.lt]
    obtain ⟨_, A, cap, h1, h2, h3, h4, h5, h6⟩ := h
    by_cases hne : cells = []
    · subst hne; rfl
    · obtain ⟨b, off, e, hd, hc⟩ := h6 hne
      exact RepC.lt hg cells b off hc
  | .own id ver m, y, h => by
    simp only [Rep] at h
    obtain ⟨A, cap, h1, h2⟩ := h
    simp only [AV.lt, decide_eq_true_eq]
    exact hg _ _ _ h1
  | .ptr id ver off, y, h => by
    simp only [Rep] at h
    obtain ⟨b, cap, h1, h2⟩ := h
    simp only [AV.lt, decide_eq_true_eq]
    exact hg _ _ _ h1
  | .rp cells, y, h => by
    simp only [Rep] at h
    obtain ⟨b, off, e, hd, hc⟩ := h
    exact RepC.lt hg cells b off hc
  | .agg cells, y, h => by
    simp only [Rep] at h
    obtain ⟨vs, e, hc⟩ := h
    exact RepL.lt hg cells _ hc
  | .tup cells, y, h => by
    simp only [Rep] at h
    obtain ⟨vs, e, hc⟩ := h
    exact RepL.lt hg cells _ hc
  | .clo fn cells, y, h => by
    simp only [Rep] at h
    obtain ⟨vs, e, hc⟩ := h
    exact RepL.lt hg cells _ hc
theorem RepC.lt {w : World} {g : Gh} {n : Nat} (hg : ∀ i v l, g.loc i v = some l → i < n) : ∀ (cs : List AV) (b off : Nat), RepC w g cs b off → AV.ltL n cs = true
  | [], _, _, _ => rfl
  | c :: cs, b, off, h => by
    simp only [RepC] at h
    obtain ⟨⟨u, h1, h2⟩, h3⟩ := h
    simp only [AV.ltL, Bool.and_eq_true]
    exact ⟨Rep.lt hg c u h2, RepC.lt hg cs b (off + 1) h3⟩
theorem RepL.lt {w : World} {g : Gh} {n : Nat} (hg : ∀ i v l, g.loc i v = some l → i < n) : ∀ (cs : List AV) (vs : List Value), RepL w g cs vs → AV.ltL n cs = true
  | [], _, h => rfl
  | c :: cs, vs, h => by
    simp only [RepL] at h
    obtain ⟨u, us, e, h1, h2⟩ := h
    simp only [AV.ltL, Bool.and_eq_true]
    exact ⟨Rep.lt hg c u h1, RepL.lt hg cs us h2⟩
end
def Ent.lt (n : Nat) : Ent → Bool
  | .mk _ _ _ cs => AV.ltL n cs
  | .gone => true
  | .free => true
theorem SimH.ltE {w : World} {g : Gh} {h : AH} (hs : SimH w g h) : ∀ e ∈ h, e.lt h.length = true := by
  intro e he
  obtain ⟨i, hi, rfl⟩ := List.mem_iff_getElem.1 he
  cases hh : h[i] with
  | gone => rfl
  | free => rfl
  | mk v ty s cs =>
    obtain ⟨A, cap, h1, h2, h3⟩ := hs.ent i v ty s cs (by rw [List.getElem?_eq_getElem hi, hh])
    rcases h3 with ⟨rfl, _⟩ | ⟨b, arr, _, _, _, _, _, _, hr⟩
    · rfl
    · exact RepL.lt (fun i v l hl => (hs.fresh _ _ _ hl).1) _ _ hr

/-- what lies behind the first entries, and is named no more, goes -/
theorem SimH.cut {w : World} {g : Gh} {h x : AH} (hs : SimH w g (h ++ x)) (hlt : ∀ e ∈ h, e.lt h.length = true) : SimH w (g.cut h.length) h := by
  have hi : ∀ {i : Nat} {e : Ent}, h[i]? = some e → (h ++ x)[i]? = some e := by
    intro i e he
    have : i < h.length := (List.getElem?_eq_some_iff.1 he).1
    rw [List.getElem?_append_left this]; exact he
  have how : ∀ i k, OwAt (g.cut h.length) h i k → OwAt g (h ++ x) i k := by
    rintro i k ⟨v, ty, s, c, b, cap, e1, e2, e3, e4⟩
    simp only [Gh.cut] at e2
    split at e2
    · exact ⟨v, ty, s, c, b, cap, hi e1, e2, e3, e4⟩
    · cases e2
  refine ⟨?_, fun i j k h1 h2 => hs.inj i j k (how i k h1) (how j k h2), hs.lt, ?_, ?_, ⟨hs.glob.w, hs.glob.d⟩⟩
  · intro i v ty s cs he
    have hlen : i < h.length := (List.getElem?_eq_some_iff.1 he).1
    obtain ⟨A, cap, h1, h2, h3⟩ := hs.ent i v ty s cs (hi he)
    refine ⟨A, cap, by simp only [Gh.cut, if_pos hlen]; exact h1, h2, h3.imp (fun x => x) ?_⟩
    rintro ⟨b, arr, rfl, f0, f1, f2, f3, f4, f5⟩
    refine ⟨b, arr, rfl, f0, f1, f2, f3, f4, RepL.cut _ _ ?_ f5⟩
    have := hlt _ (List.mem_of_getElem? he)
    simpa [Ent.lt] using this
  · intro i v l hl
    simp only [Gh.cut] at hl
    split at hl
    · rename_i hlen
      exact ⟨hlen, fun v' ty s c he => (hs.fresh _ _ _ hl).2 _ _ _ _ (hi he)⟩
    · cases hl
  · intro i v l hl hfr
    simp only [Gh.cut] at hl
    split at hl
    · exact hs.free _ _ _ hl (hi hfr)
    · cases hl
theorem Gh.le.cut {g0 g : Gh} {n : Nat} (h : g0.le g) (hb : ∀ i v l, g0.loc i v = some l → i < n) : g0.le (g.cut n) :=
  ⟨h.D, fun i v l hl => by simp only [Gh.cut, if_pos (hb _ _ _ hl)]; exact h.loc _ _ _ hl⟩
theorem Ow.of_cut {g : Gh} {h x : AH} {k : Nat} (hk : Ow (g.cut h.length) h k) : Ow g (h ++ x) k := by
  obtain ⟨i, v, ty, s, c, b, cap, e1, e2, e3, e4⟩ := hk
  have hlen : i < h.length := (List.getElem?_eq_some_iff.1 e1).1
  simp only [Gh.cut, if_pos hlen] at e2
  exact ⟨i, v, ty, s, c, b, cap, by rw [List.getElem?_append_left hlen]; exact e1, e2, e3, e4⟩

def Gh.ice (g : Gh) (h : AH) (id : Nat) : Gh := ⟨fun k => g.D k ∨ OwAt g h id k, g.loc, g.df⟩
theorem Gh.le_ice (g : Gh) (h : AH) (id : Nat) : g.le (g.ice h id) := ⟨fun _ hk => .inl hk, fun _ _ _ h => h⟩
/-- an entry is from now on read alone -/
theorem SimH.ice {w : World} {g : Gh} {h : AH} (hs : SimH w g h) {id ver ty s : Nat} {cells : List AV} (hi : h[id]? = some (.mk ver ty s cells)) :
    SimH w (g.ice h id) (h.set id .gone) ∧ (∀ k, Ow (g.ice h id) (h.set id .gone) k → Ow g h k) ∧
      ∀ n y, n * s ≤ cells.length → Rep w g (.own id ver n) y → Rep w (g.ice h id) (.sl n s false (cells.take (n * s))) y := by
  have hid : id < h.length := (List.getElem?_eq_some_iff.1 hi).1
  have hget : ∀ {i v ty s : Nat} {c : List AV}, (h.set id .gone)[i]? = some (.mk v ty s c) → i ≠ id ∧ h[i]? = some (.mk v ty s c) := by
    intro i v ty s c he
    by_cases hii : i = id
    · subst hii; rw [List.getElem?_set_self hid] at he; cases he
    · rw [List.getElem?_set_ne (Ne.symm hii)] at he; exact ⟨hii, he⟩
  have how : ∀ i k, OwAt (g.ice h id) (h.set id .gone) i k → i ≠ id ∧ OwAt g h i k := by
    rintro i k ⟨v, ty, s, c, b, cap, e1, e2, e3, e4⟩
    exact ⟨(hget e1).1, v, ty, s, c, b, cap, (hget e1).2, e2, e3, e4⟩
  refine ⟨⟨?_, fun i j k h1 h2 => hs.inj i j k (how i k h1).2 (how j k h2).2, ?_, ?_, ?_, ⟨hs.glob.w, fun k hk => .inl (hs.glob.d k hk)⟩⟩, fun k ⟨i, hk⟩ => ⟨i, (how i k hk).2⟩, ?_⟩
  · intro i v ty' s' cs he
    obtain ⟨hne, he'⟩ := hget he
    obtain ⟨A, cap, h1, h2, h3⟩ := hs.ent i v ty' s' cs he'
    refine ⟨A, cap, h1, h2, h3.imp (fun x => x) ?_⟩
    rintro ⟨b, arr, rfl, f0, f1, f2, f3, f4, f5⟩
    refine ⟨b, arr, rfl, f0, ?_, f2, f3, f4, RepL.mono (g.le_ice h _) (fun _ _ => rfl) _ _ f5⟩
    rintro (hd | hd)
    · exact f1 hd
    · exact hne (hs.inj i _ b ⟨v, ty', s', cs, _, cap, he', h1, f0, rfl⟩ hd)
  · rintro k (hk | hk)
    · exact hs.lt k hk
    · exact (hs.own_not_D ⟨_, hk⟩).2
  · intro i v l hl
    have := hs.fresh i v l hl
    refine ⟨by simpa using this.1, fun v' ty s c he => this.2 _ _ _ _ (hget he).2⟩
  · intro i v l hl hfr
    by_cases hii : i = id
    · subst hii; rw [List.getElem?_set_self hid] at hfr; cases hfr
    · rw [List.getElem?_set_ne (Ne.symm hii)] at hfr; exact hs.free _ _ _ hl hfr
  · intro n y hle hr
    simp only [Rep] at hr ⊢
    obtain ⟨A, cap, h1, h2, h3, rfl⟩ := hr
    obtain ⟨A', cap', f1, _, f3⟩ := hs.ent _ _ _ _ _ hi
    rw [h1] at f1
    simp only [Option.some.injEq, Prod.mk.injEq] at f1
    obtain ⟨rfl, rfl⟩ := f1
    refine ⟨by rw [List.length_take]; omega, A, cap, rfl, h2, h3, by simp, ?_, ?_⟩
    · rintro rfl
      rcases f3 with ⟨_, h0⟩ | ⟨b, arr, e, _⟩
      · exact h0
      · cases e
    · intro hne
      rcases f3 with ⟨rfl, _⟩ | ⟨b', arr, rfl, hc0, _, hb, _, hl, hrl⟩
      · simp at hne
      · refine ⟨b', 0, rfl, .inr ⟨ver, ty, s, cells, _, cap, hi, h1, hc0, rfl⟩, RepC.of_row hb _ _ ?_⟩
        have := RepL.mono (g.le_ice h id) (fun _ _ => rfl) _ _ (hrl.take (n * s))
        rw [List.take_take] at this
        simpa [Nat.min_eq_left hle] using this

end
section
variable {P : Program} {n0 : Nat}

inductive AX where
  | normal | exit (id : Nat) | ret | pan (c : AV)
/-- how a call ends -/
inductive AE where
  | ret (c : AV) | pan (c : AV)

def ExR (w : World) (g : Gh) : Exit → AX → Prop
  | .normal, .normal => True
  | .exit i, .exit j => i = j
  | .ret, .ret => True
  | .panic ch, .pan c => ∃ v, ch = [{ v := v, recovered := false }] ∧ Rep w g c v
  | _, _ => False

structure St (n0 : Nat) (w0 : World) (S0 : Nat → Prop) (g0 : Gh) (T : List AV) (h : AH) (a : Act) (w : World) (g : Gh) : Prop where
  tmps : RepL w g T a.tmps.toList
  defers : a.defers = g0.df
  sim : SimH w g h
  fr : Fr w0 S0 w
  le : g0.le g
  bd : ∀ id ver l, g0.loc id ver = some l → id < n0
  ow : ∀ k, Ow g h k → S0 k ∨ w0.heap.size ≤ k

def AW (P : Program) (n0 : Nat) (c : Code) (Q : AX → List AV → AH → Prop) (T : List AV) (h : AH) : Prop :=
  ∀ w0 S0 g0 a w g, St n0 w0 S0 g0 T h a w g → c.wp P (fun e a' w' => ∃ x T' h' g', St n0 w0 S0 g0 T' h' a' w' g' ∧ ExR w' g' e x ∧ Q x T' h') a w

def APost (n0 : Nat) (w0 : World) (S0 : Nat → Prop) (g0 : Gh) (Q : AX → List AV → AH → Prop) : Exit → Act → World → Prop := fun e a' w' => ∃ x T' h' g', St n0 w0 S0 g0 T' h' a' w' g' ∧ ExR w' g' e x ∧ Q x T' h'

theorem AW.mono {c : Code} {Q Q' : AX → List AV → AH → Prop} {T : List AV} {h : AH} (hw : AW P n0 c Q T h) (hq : ∀ x T h, Q x T h → Q' x T h) : AW P n0 c Q' T h :=
  fun w0 S0 g0 a w g hs => wp_mono (hw w0 S0 g0 a w g hs) fun _ _ _ ⟨x, T', h', g', h1, h2, h3⟩ => ⟨x, T', h', g', h1, h2, hq _ _ _ h3⟩

theorem AW_skip {Q : AX → List AV → AH → Prop} {T : List AV} {h : AH} (hq : Q .normal T h) : AW P n0 .skip Q T h :=
  fun _ _ _ _ _ g hs => wp_skip ⟨.normal, T, h, g, hs, trivial, hq⟩
theorem AW_label {l : Nat} {Q : AX → List AV → AH → Prop} {T : List AV} {h : AH} (hq : Q .normal T h) : AW P n0 (.label l) Q T h :=
  fun _ _ _ _ _ g hs => wp_label ⟨.normal, T, h, g, hs, trivial, hq⟩
theorem AW_ret {Q : AX → List AV → AH → Prop} {T : List AV} {h : AH} (hq : Q .ret T h) : AW P n0 .ret Q T h :=
  fun _ _ _ _ _ g hs => wp_ret ⟨.ret, T, h, g, hs, trivial, hq⟩
theorem AW_exit {i : Nat} {Q : AX → List AV → AH → Prop} {T : List AV} {h : AH} (hq : Q (.exit i) T h) : AW P n0 (.exit i) Q T h :=
  fun _ _ _ _ _ g hs => wp_exit ⟨.exit i, T, h, g, hs, rfl, hq⟩

def AX.thn (next : List AV → AH → Prop) (Q : AX → List AV → AH → Prop) : AX → List AV → AH → Prop
  | .normal, T, h => next T h
  | e, T, h => Q e T h
def AX.blk (id : Nat) (Q : AX → List AV → AH → Prop) : AX → List AV → AH → Prop
  | .exit i, T, h => if i = id then Q .normal T h else Q (.exit i) T h
  | e, T, h => Q e T h

theorem AW_seq {x y : Code} {Q : AX → List AV → AH → Prop} {T : List AV} {h : AH} (hx : AW P n0 x (AX.thn (AW P n0 y Q) Q) T h) : AW P n0 (.seq x y) Q T h := by
  intro w0 S0 g0 a w g hs
  refine wp_seq (wp_mono (hx w0 S0 g0 a w g hs) ?_)
  rintro e a' w' ⟨z, T', h', g', h1, h2, h3⟩
  cases z <;> cases e <;> simp only [ExR] at h2 <;> simp only [Exit.then, AX.thn] at h3 ⊢
  case normal.normal => exact h3 w0 S0 g0 a' w' g' h1
  case exit.exit => exact ⟨_, T', h', g', h1, by simp only [ExR]; exact h2, h3⟩
  case ret.ret => exact ⟨_, T', h', g', h1, by simp only [ExR], h3⟩
  case pan.panic => exact ⟨_, T', h', g', h1, by simp only [ExR]; exact h2, h3⟩

theorem AW_block {c : Code} {id : Nat} {Q : AX → List AV → AH → Prop} {T : List AV} {h : AH} (hx : AW P n0 c (AX.blk id Q) T h) : AW P n0 (.block id c) Q T h := by
  intro w0 S0 g0 a w g hs
  refine wp_block (wp_mono (hx w0 S0 g0 a w g hs) ?_)
  rintro e a' w' ⟨z, T', h', g', h1, h2, h3⟩
  cases z <;> cases e <;> simp only [ExR] at h2 <;> simp only [Exit.inBlock, AX.blk] at h3 ⊢
  case normal.normal => exact ⟨_, T', h', g', h1, by simp only [ExR], h3⟩
  case exit.exit i j =>
    subst h2
    split at h3 <;> rename_i hi
    · rw [if_pos hi]; exact ⟨.normal, T', h', g', h1, by simp only [ExR], h3⟩
    · rw [if_neg hi]; exact ⟨_, T', h', g', h1, by simp only [ExR], h3⟩
  case ret.ret => exact ⟨_, T', h', g', h1, by simp only [ExR], h3⟩
  case pan.panic => exact ⟨_, T', h', g', h1, by simp only [ExR]; exact h2, h3⟩

theorem AW_scope {c : Code} {Q : AX → List AV → AH → Prop} {T : List AV} {h : AH} (hx : AW P n0 c Q T h) : AW P n0 (.scope c) Q T h := by
  intro w0 S0 g0 a w g hs
  refine wp_scope_straight (wp_mono (hx w0 S0 g0 a w g hs) ?_)
  rintro e a' w' ⟨z, T', h', g', h1, h2, h3⟩
  cases z <;> cases e <;> simp only [ExR] at h2 <;> exact ⟨_, T', h', g', h1, by simp only [ExR] <;> (first | trivial | exact h2), h3⟩

/-- what a slot holds -/
def AV.ofCell : Value → AV
  | .slice none 0 0 => .sl 0 0 true []
  | x => .v x
def AV.ofVal : Value → AV
  | .agg cs => .agg (cs.toList.map AV.ofCell)
  | x => AV.ofCell x
theorem rep_ofCell (w : World) (g : Gh) (v : Value) : Rep w g (AV.ofCell v) v := by
  unfold AV.ofCell
  split
  · simp only [Rep]; exact ⟨rfl, none, 0, rfl, Nat.le_refl _, by simp [maxLen], fun _ => rfl, fun _ => rfl, fun h => absurd rfl h⟩
  · simp only [Rep]
theorem repL_ofCell (w : World) (g : Gh) : ∀ vs : List Value, RepL w g (vs.map AV.ofCell) vs
  | [] => by simp only [List.map_nil, RepL]
  | v :: vs => by simp only [List.map_cons, RepL]; exact ⟨v, vs, rfl, rep_ofCell w g v, repL_ofCell w g vs⟩
theorem rep_ofVal (w : World) (g : Gh) (v : Value) : Rep w g (AV.ofVal v) v := by
  unfold AV.ofVal
  split
  · simp only [Rep]; exact ⟨_, rfl, repL_ofCell w g _⟩
  · exact rep_ofCell w g _
def aEval (T : List AV) : Operand → AV
  | .tmp t => (T[t]?).getD .any
  | .const v => AV.ofVal v
  | .global _ => .any
  | .func f => .v (.func (.func f) #[] #[])
theorem aEval_rep {w : World} {g : Gh} {T : List AV} {a : Act} (ht : RepL w g T a.tmps.toList) (x : Operand) : Rep w g (aEval T x) (a.eval x) := by
  cases x with
  | tmp t =>
    simp only [aEval, Act.eval]
    cases hT : T[t]? with
    | none => simp only [Option.getD_none, Rep]
    | some c =>
      obtain ⟨u, h1, h2⟩ := ht.get hT
      have : a.tmps.getD t undef = u := by
        have : a.tmps[t]? = some u := by simpa using h1
        simp [this]
      rw [this]; exact h2
  | const v => exact rep_ofVal w g v
  | global g => simp only [aEval, Rep]
  | func f => simp only [aEval, Act.eval, Rep]

theorem AW_cond {c : Operand} {x y : Code} {Q : AX → List AV → AH → Prop} {T : List AV} {h : AH} {b : Bool} (hc : aEval T c = .v (.bool b)) (ht : b = true → AW P n0 x Q T h) (hf : b = false → AW P n0 y Q T h) : AW P n0 (.cond c x y) Q T h := by
  intro w0 S0 g0 a w g hs
  have := aEval_rep hs.tmps c
  rw [hc] at this
  simp only [Rep] at this
  exact wp_cond_split this (fun hb => ht hb w0 S0 g0 a w g hs) (fun hb => hf hb w0 S0 g0 a w g hs)

theorem AW_loop {c : Code} {Q : AX → List AV → AH → Prop} {T : List AV} {h : AH} (I : Nat → List AV → AH → Prop) (n : Nat) (h0 : I n T h)
    (round : ∀ n T h, I n T h → AW P n0 c (AX.thn (fun T' h' => ∃ m, m < n ∧ I m T' h') Q) T h) : AW P n0 (.loop c) Q T h := by
  intro w0 S0 g0 a w g hs
  refine wp_loop_ghost (fun n a w => ∃ T h g, St n0 w0 S0 g0 T h a w g ∧ I n T h) n ⟨T, h, g, hs, h0⟩ ?_
  rintro n a w ⟨T, h, g, hs, hI⟩
  refine wp_mono (round n T h hI w0 S0 g0 a w g hs) ?_
  rintro e a' w' ⟨z, T', h', g', h1, h2, h3⟩
  cases z <;> cases e <;> simp only [ExR] at h2 <;> simp only [Exit.then, AX.thn] at h3 ⊢
  case normal.normal => obtain ⟨m, hm, hI⟩ := h3; exact ⟨m, hm, T', h', g', h1, hI⟩
  case exit.exit => exact ⟨_, T', h', g', h1, by simp only [ExR]; exact h2, h3⟩
  case ret.ret => exact ⟨_, T', h', g', h1, by simp only [ExR], h3⟩
  case pan.panic => exact ⟨_, T', h', g', h1, by simp only [ExR]; exact h2, h3⟩

/-- less is told of the same -/
def ALe (n0 : Nat) (T : List AV) (h : AH) (T' : List AV) (h' : AH) : Prop := ∀ w0 S0 g0 a w g, St n0 w0 S0 g0 T h a w g → ∃ g', St n0 w0 S0 g0 T' h' a w g'
theorem AW_le {c : Code} {Q : AX → List AV → AH → Prop} {T T' : List AV} {h h' : AH} (hl : ALe n0 T h T' h') (hx : AW P n0 c Q T' h') : AW P n0 c Q T h := by
  intro w0 S0 g0 a w g hs
  obtain ⟨g', hs'⟩ := hl w0 S0 g0 a w g hs
  exact hx w0 S0 g0 a w g' hs'

end
section
variable {P : Program} {n0 : Nat}

def EndR (w : World) (g : Gh) : Ending → AE → Prop
  | .returned v, .ret c => Rep w g c v
  | .panicked ch, .pan c => ∃ v, ch = [{ v := v, recovered := false }] ∧ Rep w g c v
  | _, _ => False

/-- the call op of this function enters its body -/
def enters (P : Program) (f : FuncId) : Bool := match P.funcs[f]? with
  | some fn => fn.name != "runtime.NumGoroutine" && fn.body.isSome
  | none => false

def ACalls (P : Program) (f : FuncId) (args : List AV) (h : AH) (R : AE → AH → Prop) : Prop :=
  enters P f = true ∧ ∀ w g (vs : Array Value), SimH w g h → RepL w g args vs.toList → Calls P f vs w fun e w' => ∃ x h' g', EndR w' g' e x ∧ SimH w' g' h' ∧ g.le g' ∧ Fr w (Ow g h) w' ∧ (∀ k, Ow g' h' k → Ow g h k ∨ w.heap.size ≤ k) ∧ R x h'

theorem ACalls.mono {f : FuncId} {args : List AV} {h : AH} {R R' : AE → AH → Prop} (hc : ACalls P f args h R) (hr : ∀ x h', R x h' → R' x h') : ACalls P f args h R' :=
  ⟨hc.1, fun w g vs hs ha => (hc.2 w g vs hs ha).mono fun _ _ ⟨x, h', g', h1, h2, h3, h4, h5, h6⟩ => ⟨x, h', g', h1, h2, h3, h4, h5, hr _ _ h6⟩⟩

def AE.lt (n : Nat) : AE → Bool
  | .ret c => c.lt n
  | .pan c => c.lt n
variable {P : Program} {n0 : Nat}
/-- what a call has made, and nothing names any more, is forgotten -/
theorem ACalls.gc {f : FuncId} {args : List AV} {h : AH} {R : AE → AH → Prop} (hc : ACalls P f args h fun x h' => ∃ y z, h' = y ++ z ∧ y.length = h.length ∧ (∀ e ∈ y, e.lt h.length = true) ∧ x.lt h.length = true ∧ R x y) : ACalls P f args h R := by
  refine ⟨hc.1, fun w g vs hs ha => (hc.2 w g vs hs ha).mono ?_⟩
  rintro e w' ⟨x, h', g', h1, h2, h3, h4, h5, y, z, rfl, hl, hlt, hx, hR⟩
  have hcut := h2.cut (by rw [hl]; exact hlt)
  refine ⟨x, y, g'.cut y.length, ?_, hcut, h3.cut (fun i v l hi => by rw [hl]; exact (hs.fresh _ _ _ hi).1), h4, fun k hk => h5 k hk.of_cut, hR⟩
  rw [hl]
  cases x <;> cases e <;> simp only [EndR] at h1 ⊢
  · exact Rep.cut _ _ hx h1
  · obtain ⟨v, e1, e2⟩ := h1; exact ⟨v, e1, Rep.cut _ _ hx e2⟩

/-- the heap as it was: entries name none but their own -/
theorem ACalls.gc_same {f : FuncId} {args : List AV} {h : AH} {R : AE → Prop} (hc : ACalls P f args h fun x h' => ∃ z, h' = h ++ z ∧ x.lt h.length = true ∧ R x) : ACalls P f args h fun x h' => h' = h ∧ R x := by
  refine ⟨hc.1, fun w g vs hs ha => ?_⟩
  have hlt := hs.ltE
  refine (ACalls.gc (R := fun x h' => h' = h ∧ R x) ⟨hc.1, fun w g vs hs ha => (hc.2 w g vs hs ha).mono ?_⟩).2 w g vs hs ha
  rintro e w' ⟨x, h', g', h1, h2, h3, h4, h5, z, rfl, hx, hR⟩
  exact ⟨x, _, g', h1, h2, h3, h4, h5, h, z, rfl, rfl, hlt, hx, rfl, hR⟩

/-- a result that is of its own making is from now on read alone -/
def RetQ (P : Program) (fn : Func) (R : AE → AH → Prop) : AX → List AV → AH → Prop
  | .normal, T, h | .ret, T, h => ∃ r, (∀ w g a, SimH w g h → RepL w g T a → ∃ v, (results fn a.toArray).run P w = .ok v w ∧ Rep w g r v) ∧ R (.ret r) h
  | .pan c, _, h => R (.pan c) h
  | _, _, _ => False

theorem repL_any (w : World) (g : Gh) : ∀ vs : List Value, RepL w g (List.replicate vs.length .any) vs
  | [] => by simp only [List.length_nil, List.replicate_zero, RepL]
  | v :: vs => by simp only [List.length_cons, List.replicate_succ, RepL]; exact ⟨v, vs, rfl, by simp only [Rep], repL_any w g vs⟩

theorem ACalls.of_AW {f : FuncId} {fn : Func} {c : Code} {args : List AV} {h : AH} {R : AE → AH → Prop} (hf : P.funcs[f]? = some fn) (hb : fn.body = some c) (hn : enters P f = true)
    (hw : AW P h.length c (RetQ P fn R) (args ++ List.replicate (fn.ntmps - args.length) .any) h) : ACalls P f args h R := by
  refine ⟨hn, fun w g vs hs ha => calls_of_wp hf hb ?_⟩
  have hlen : vs.size = args.length := by simpa using ha.length
  have hst : St h.length w (Ow g h) ⟨g.D, g.loc, []⟩ (args ++ List.replicate (fn.ntmps - args.length) .any) h { tmps := vs ++ Array.replicate (fn.ntmps - vs.size) undef, defers := [] } w g := by
    refine ⟨?_, rfl, hs, Fr.refl _ _, ⟨fun _ h => h, fun _ _ _ h => h⟩, fun i v l hl => (hs.fresh i v l hl).1, fun k hk => .inl hk⟩
    simp only [Array.toList_append, Array.toList_replicate, hlen]
    refine ha.append ?_
    have := repL_any w g (List.replicate (fn.ntmps - args.length) undef)
    simpa using this
  refine wp_mono (hw w (Ow g h) ⟨g.D, g.loc, []⟩ _ w g hst) ?_
  rintro e a' w' ⟨x, T', h', g', h1, h2, h3⟩
  cases x <;> cases e <;> simp only [ExR] at h2 <;> simp only [RetQ] at h3
  case normal.normal =>
    obtain ⟨r, hr, hR⟩ := h3
    obtain ⟨v, e1, e2⟩ := hr w' g' _ h1.sim h1.tmps
    exact ⟨h1.defers, v, by simpa using e1, .ret r, h', g', e2, h1.sim, ⟨h1.le.D, h1.le.loc⟩, h1.fr, h1.ow, hR⟩
  case ret.ret =>
    obtain ⟨r, hr, hR⟩ := h3
    obtain ⟨v, e1, e2⟩ := hr w' g' _ h1.sim h1.tmps
    exact ⟨h1.defers, v, by simpa using e1, .ret r, h', g', e2, h1.sim, ⟨h1.le.D, h1.le.loc⟩, h1.fr, h1.ow, hR⟩
  case pan.panic => exact ⟨h1.defers, .pan _, h', g', h2, h1.sim, ⟨h1.le.D, h1.le.loc⟩, h1.fr, h1.ow, h3⟩

/-- behind a call -/
theorem St.call {w0 : World} {S0 : Nat → Prop} {g0 : Gh} {T : List AV} {h h' : AH} {a : Act} {w w' : World} {g g' : Gh} (hs : St n0 w0 S0 g0 T h a w g) (h2 : SimH w' g' h') (h3 : g.le g') (h4 : Fr w (Ow g h) w') (h5 : ∀ k, Ow g' h' k → Ow g h k ∨ w.heap.size ≤ k) :
    St n0 w0 S0 g0 T h' a w' g' := by
  refine ⟨RepL.mono h3 (fun k hk => h4.block k (hs.sim.lt k hk) (fun ho => (hs.sim.own_not_D ho).1 hk)) _ _ hs.tmps, hs.defers, h2, hs.fr.trans h4 ?_, hs.le.trans h3, hs.bd, ?_⟩
  · intro i hi hlt
    exact (hs.ow i hi).resolve_right (by omega)
  · intro k hk
    rcases h5 k hk with ho | ho
    · exact hs.ow k ho
    · exact .inr (Nat.le_trans hs.fr.size ho)

theorem St.put {w0 : World} {S0 : Nat → Prop} {g0 : Gh} {T : List AV} {h : AH} {a : Act} {w : World} {g : Gh} (hs : St n0 w0 S0 g0 T h a w g) {d : Nat} {c : AV} {v : Value} (hv : Rep w g c v) : St n0 w0 S0 g0 (T.set d c) h (a.put (some d) v) w g :=
  ⟨by simpa [Act.put] using hs.tmps.set hv, hs.defers, hs.sim, hs.fr, hs.le, hs.bd, hs.ow⟩
def aPut (T : List AV) (d : Option Nat) (c : AV) : List AV := match d with
  | some d => T.set d c
  | none => T
theorem St.aput {w0 : World} {S0 : Nat → Prop} {g0 : Gh} {T : List AV} {h : AH} {a : Act} {w : World} {g : Gh} (hs : St n0 w0 S0 g0 T h a w g) {d : Option Nat} {c : AV} {v : Value} (hv : Rep w g c v) : St n0 w0 S0 g0 (aPut T d c) h (a.put d v) w g := by
  cases d with
  | none => exact hs
  | some d => exact hs.put hv

end
end Go.Ab
