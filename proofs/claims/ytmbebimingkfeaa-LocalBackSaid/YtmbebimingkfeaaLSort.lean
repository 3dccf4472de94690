/-
  Contract on plain data: slices.Sort of integers that the proof owns. Condition: there are fewer than 2^62.
-/
import Derived.Test.YtmbebimingkfeaaLShelf
import Derived.Sort.OwnSortedInts
import Derived.Test.YtmbebimingkfeaaATabB
set_option linter.unusedVariables false
set_option linter.unusedSimpArgs false
namespace Go.Proofs.Ytmbebimingkfeaa
open Go.Ab Go.Sort
abbrev intC (n : Int) : List AV := [iv n]
theorem int_lt {n : Nat} (l : List Int) : AV.ltL n (rows intC l) = true := rows_lt (fun _ _ => rfl) l
theorem int_leaf (l : List Int) : (rows intC l).all leaf = true := rows_leaf (fun _ => rfl) l
theorem int_len1 : ∀ x, (intC x).length = 1 := fun _ => rfl
theorem int_len (l : List Int) : (rows intC l).length = l.length * 1 := rows_len int_len1 l
theorem repL_ints {w : World} {g : Gh} : ∀ {l : List Int} {vs : List Value}, RepL w g (rows intC l) vs ↔ vs = l.map (Value.int .i64)
  | [], vs => by simp [rows, RepL]
  | n :: l, vs => by
    rw [show rows intC (n :: l) = iv n :: rows intC l from rfl]
    simp only [RepL, Rep, List.map_cons]
    constructor
    · rintro ⟨u, us, rfl, rfl, h⟩
      rw [repL_ints.1 h]
    · rintro rfl
      exact ⟨_, _, rfl, rfl, repL_ints.2 rfl⟩
def sortI (l : List Int) : List Int := l.mergeSort fun x y => decide (x ≤ y)
theorem sortI_len (l : List Int) : (sortI l).length = l.length := List.length_mergeSort l
theorem sort_a {l : List Int} {id v ty : Nat} {h : AH} (he : h[id]? = some (.mk v ty 1 (rows intC l))) (hl : l.length < 4611686018427387904) :
    ACalls Try.prog 74 [.own id v l.length] h fun r h' => r = .ret (.tup []) ∧ h' = h.set id (.mk v ty 1 (rows intC (sortI l))) := by
  have hid : id < h.length := (List.getElem?_eq_some_iff.1 he).1
  refine ⟨by kernel_rfl, fun w g vs hs ha => ?_⟩
  simp only [RepL, Rep] at ha
  obtain ⟨val, us, e, ⟨A, cap, e1, e2, e3, rfl⟩, rfl⟩ := ha
  obtain rfl : vs = #[.slice A l.length cap] := by cases vs; simp_all
  obtain ⟨A', cap', f1, fm, f3⟩ := hs.ent _ _ _ _ _ he
  rw [e1] at f1
  simp only [Option.some.injEq, Prod.mk.injEq] at f1
  obtain ⟨rfl, rfl⟩ := f1
  by_cases h0 : l = []
  · subst h0
    refine (Try.slices_Sort_int_none A cap w).mono ?_
    rintro e w' ⟨rfl, rfl⟩
    refine ⟨.ret (.tup []), h, g, ?_, hs, Gh.le.refl g, Fr.refl _ _, fun k hk => .inl hk, rfl, ?_⟩
    · exact (by simp only [EndR, Rep]; exact ⟨#[], rfl, by simp [RepL]⟩)
    · rw [show sortI [] = [] by simp [sortI]]
      exact (hx_self he).symm
  rcases f3 with ⟨hz, _⟩ | ⟨b, arr, rfl, hc0, hd, hb, hsz, hle, hrl⟩
  · have := congrArg List.length hz
    rw [int_len] at this
    exact absurd (List.eq_nil_of_length_eq_zero (by simpa using this)) h0
  have hb' : b < w.heap.size := (Array.getElem?_eq_some_iff.1 hb).1
  rw [int_len, Nat.mul_one] at hrl hle
  have hrl2 := repL_ints.1 hrl
  have how : OwAt g h id b := ⟨v, ty, 1, _, _, cap, he, e1, hc0, rfl⟩
  refine (Try.slices_Sort_int b 0 cap l w (holds_of_blockI hb hrl2) hb' hl).mono ?_
  rintro e w' ⟨rfl, n, os, rfl⟩
  obtain ⟨q1, q2, q3, q4, q5⟩ := grownBy_sortedI (w := w) (g := b) (n := n) (os := os) (sortI l).toArray
  have hb2 := heap_sortedI (n := n) (os := os) (sortI l).toArray hb
  have hother : ∀ j, j ≠ b → j < w.heap.size → (grow (putRow (Value.int .i64) (Sort.ahead w n) b 0 (sortI l).toArray) os).heap[j]? = w.heap[j]? := fun j hj hlt => q5 j hlt (by simpa using hj)
  have hw : ∀ j, g.D j ∨ (∃ i, i ≠ id ∧ OwAt g h i j) → (grow (putRow (Value.int .i64) (Sort.ahead w n) b 0 (sortI l).toArray) os).heap[j]? = w.heap[j]? := by
    rintro j (hj | ⟨i, hne, hj⟩)
    · exact hother j (fun e => hd (e ▸ hj)) (hs.lt j hj)
    · refine hother j (fun e => hne ?_) (hs.own_not_D ⟨i, hj⟩).2
      subst e
      exact hs.inj i id j hj how
  obtain ⟨s1, s2, s3⟩ := hs.put (g' := g) (h' := h.set id (.mk v ty 1 (rows intC (sortI l)))) (w' := grow (putRow (Value.int .i64) (Sort.ahead w n) b 0 (sortI l).toArray) os) id v ty 1 (rows intC (sortI l)) (some ⟨b, 0, none⟩) cap
    (fun i hne => List.getElem?_set_ne (Ne.symm hne)) (List.getElem?_set_self hid) (by simp) rfl (fun _ _ _ h => h) (fun _ _ _ h => .inl h) e1 (fun v' l' hv => (hs.fresh _ _ _ hv).2 _ _ _ _ he) hw q4 fm
    (.inr ⟨b, _, rfl, hc0, hd, hb2, by simpa [putCells] using hsz, by rw [int_len, sortI_len]; simpa [putCells] using hle, by
      rw [int_len, Nat.mul_one]
      exact repL_ints.2 (take_putCellsI arr (sortI l) (by rw [sortI_len]; exact hle))⟩)
    (fun j hj _ i hne ho => by
      simp at hj
      subst hj
      exact hne (hs.inj i id _ ho how))
  refine ⟨.ret (.tup []), _, g, (by simp only [EndR, Rep]; exact ⟨#[], rfl, by simp [RepL]⟩), s1, s2, ⟨q1, q2, q3, q4, fun k hk hn => hother k (fun e => hn (e ▸ ⟨id, how⟩)) hk⟩, fun k hk => .inl (Ow.of_set he hk), rfl, rfl⟩
end Go.Proofs.Ytmbebimingkfeaa
