/-
  Arguments of whatever depth (numbers, texts, bools, structs, slices of such) read as plain data: one reading for all types. No condition.
-/
import Derived.Test.YtgjchdhdopgkkaaDoorFrame
import Derived.Test.YtgjchdhdopgkkaaDoorAbsE
import Derived.Deep.Slices
import Derived.Below
set_option linter.unusedVariables false
set_option maxRecDepth 100000
namespace Go.Proofs.YtgjchdhdopgkkaaDoor
open Go.ChangeShapes Go.WideShapes Go.ChangeAt Go.RowKit Go.Deep Go.Ab

/-- the shapes of data -/
inductive Ds where
  | int | str | bool
  | pair (a b : Ds)
  | slice (a : Ds)

@[reducible] def El : Ds → Type
  | .int => Int
  | .str => ByteArray
  | .bool => Bool
  | .pair a b => El a × El b
  | .slice a => List (El a)

def Ds.size : Ds → Nat
  | .pair a b => a.size + b.size
  | _ => 1

theorem Ds.size_pos (d : Ds) : 0 < d.size := by
  induction d with
  | pair a b iha ihb => simp only [Ds.size]; omega
  | _ => simp [Ds.size]

/-- the cells 'cs' hold 'x', what slices lead to lying in w below block B -/
def Rd (w : World) (B : Nat) : (d : Ds) → List Value → El d → Prop
  | .int, cs, n => cs = [.int .i64 n] ∧ -9223372036854775808 ≤ n ∧ n ≤ 9223372036854775807
  | .str, cs, s => cs = [.string s] ∧ s.size ≤ maxLen
  | .bool, cs, b => cs = [.bool b]
  | .pair a b, cs, p => ∃ c1 c2, cs = c1 ++ c2 ∧ Rd w B a c1 p.1 ∧ Rd w B b c2 p.2
  | .slice a, cs, l => ∃ A c, cs = [.slice A l.length c] ∧ l.length ≤ c ∧ c ≤ maxLen ∧ (A = none → c = 0) ∧
      (0 < l.length → ∃ b off, A = some ⟨b, off, none⟩ ∧ b < B ∧ ∀ k (h : k < l.length), ∃ r, (∀ j v, r[j]? = some v → w.cell? ⟨b, off + k * a.size + j, none⟩ = some v) ∧ Rd w B a r l[k])

theorem Rd.length {w : World} {B : Nat} : ∀ {d : Ds} {cs : List Value} {x : El d}, Rd w B d cs x → cs.length = d.size
  | .int, cs, x, h => by rw [h.1]; rfl
  | .str, cs, x, h => by rw [h.1]; rfl
  | .bool, cs, x, h => by rw [show cs = _ from h]; rfl
  | .pair a b, cs, x, ⟨c1, c2, e, h1, h2⟩ => by rw [e, List.length_append, Rd.length h1, Rd.length h2]; rfl
  | .slice a, cs, x, ⟨A, c, e, _⟩ => by rw [e]; rfl

theorem Rd.keep {w w' : World} {B B' : Nat} (hk : ∀ p : Addr, p.block < B → w'.cell? p = w.cell? p) (hB : B ≤ B') : ∀ {d : Ds} {cs : List Value} {x : El d}, Rd w B d cs x → Rd w' B' d cs x
  | .int, cs, x, h => h
  | .str, cs, x, h => h
  | .bool, cs, x, h => h
  | .pair a b, cs, x, ⟨c1, c2, e, h1, h2⟩ => ⟨c1, c2, e, Rd.keep hk hB h1, Rd.keep hk hB h2⟩
  | .slice a, cs, x, ⟨A, c, e, hl, hm, hA0, h⟩ => ⟨A, c, e, hl, hm, hA0, fun h0 => by
      obtain ⟨b, off, hA, hb, hi⟩ := h h0
      refine ⟨b, off, hA, by omega, fun k hk' => ?_⟩
      obtain ⟨r, hc, hr⟩ := hi k hk'
      exact ⟨r, fun j v hv => (hk _ hb).trans (hc j v hv), Rd.keep hk hB hr⟩⟩
theorem Rd.below {w w' : World} {B : Nat} {d : Ds} {cs : List Value} {x : El d} (h : Rd w B d cs x) (hb : Below B w w') : Rd w' B d cs x := h.keep (fun p hp => hb.cell hp) (Nat.le_refl _)
theorem Rd.more {w : World} {B B' : Nat} {d : Ds} {cs : List Value} {x : El d} (h : Rd w B d cs x) (hB : B ≤ B') : Rd w B' d cs x := h.keep (fun p hp => rfl) hB

/-- does the type read as these data? -/
def fitsG (P : Program) (f : TypeId → Ds → Bool) : List Field → Nat → Ds → Bool
  | [], _, _ => false
  | fd :: fs, off, d => match fs with
    | [] => fd.offset == off && P.cellsOf fd.type == d.size && f fd.type d
    | _ :: _ => match d with
      | .pair a b => fd.offset == off && P.cellsOf fd.type == a.size && f fd.type a && fitsG P f fs (off + a.size) b
      | _ => false
def fits (P : Program) : Nat → TypeId → Ds → Bool
  | 0, _, _ => false
  | n + 1, t, d =>
    match P.underlying t with
    | some (.int .i64) => match d with
      | .int => true
      | _ => false
    | some .string => match d with
      | .str => true
      | _ => false
    | some .bool => match d with
      | .bool => true
      | _ => false
    | some (.slice e) => match d with
      | .slice a => P.cellsOf e == a.size && fits P n e a
      | _ => false
    | some (.struct fs) => P.cellsOf t == d.size && fitsG P (fits P n) fs.toList 0 d
    | _ => false

section
variable {H : Type} {enc : TypeId × Value → H} {P : Program} {w : World} {base : Nat} {spare : Nat → Bool} {held : Bool}

theorem spot_of_cell {w : World} {a : Addr} {v : Value} (h : w.cell? a = some v) : a.spot = none := by
  unfold World.cell? at h
  split at h
  · split at h
    · cases h
    · rename_i hs; simpa using hs
  · cases h

theorem list_of {α β : Type} {Q : Nat → β → α → Prop} : ∀ (n : Nat), (∀ i, i < n → ∃ r y, Q i r y) → ∃ l : List α, l.length = n ∧ ∀ i (h : i < l.length), ∃ r, Q i r l[i]
  | 0, _ => ⟨[], rfl, fun i h => absurd h (by simp)⟩
  | n + 1, h => by
    obtain ⟨l, hl, hq⟩ := list_of n (fun i hi => h i (by omega))
    obtain ⟨r, y, hy⟩ := h n (by omega)
    refine ⟨l ++ [y], by simp [hl], fun i hi => ?_⟩
    by_cases hin : i < l.length
    · obtain ⟨r', h'⟩ := hq i hin
      exact ⟨r', by rw [List.getElem_append_left hin]; exact h'⟩
    · obtain rfl : i = n := by simp at hi; omega
      exact ⟨r, by rw [List.getElem_append_right (by omega)]; simpa [hl] using hy⟩

theorem rd_of_trod : ∀ (n : Nat) (t : TypeId) (d : Ds) (fuel : Nat) (cs : List Value) (x : DataW H × List MemPlace), fits P n t d = true → DataW.trod enc P w base spare held fuel t cs = some x → ∃ e : El d, Rd w w.heap.size d cs e
  | 0, t, d, fuel, cs, x, hf, h => by simp [fits] at hf
  | n + 1, t, d, fuel, cs, x, hf, h => by
    unfold fits at hf
    split at hf
    · rename_i hu
      split at hf <;> try (cases hf; done)
      obtain ⟨m, rfl, _, hw⟩ := DataW.trod_int hu h
      exact ⟨m, rfl, by simpa [Lit.wf, IntKind.min, IntKind.max, IntKind.signed, IntKind.bits] using hw⟩
    · rename_i hu
      split at hf <;> try (cases hf; done)
      obtain ⟨s, rfl, _, hw⟩ := DataW.trod_string hu h
      exact ⟨s, rfl, hw⟩
    · rename_i hu
      split at hf <;> try (cases hf; done)
      obtain ⟨b, rfl, _⟩ := DataW.trod_bool hu h
      exact ⟨b, rfl⟩
    · rename_i e hu
      split at hf <;> try (cases hf; done)
      rename_i a
      simp only [Bool.and_eq_true, beq_iff_eq] at hf
      rcases open_slice hu h with ⟨rfl, _⟩ | ⟨ad, len, cap, m, k, D, Pl, rfl, hb, hl, hm, hmm, _, hi⟩
      · exact ⟨([] : List (El a)), none, 0, rfl, Nat.le_refl _, by unfold maxLen; omega, fun _ => rfl, fun h0 => absurd h0 (by simp)⟩
      · have hlm : len ≤ m := by rw [hmm]; split <;> omega
        have hex : ∀ i, i < len → ∃ (r : List Value) (y : El a), (∀ j v, r[j]? = some v → w.cell? ((ad.add (i * a.size)).add j) = some v) ∧ r.length = a.size ∧ Rd w w.heap.size a r y := by
          intro i hil
          obtain ⟨cs', hc, ht⟩ := hi i (by omega)
          rw [hf.1] at hc
          obtain ⟨_, hcl, hat⟩ := World.cells?_some hc
          obtain ⟨y, hy⟩ := rd_of_trod n e a k cs' _ hf.2 ht
          exact ⟨cs', y, fun j v hv => by rw [hat j (by have := (List.getElem?_eq_some_iff.1 hv).1; omega)]; exact hv, hcl, hy⟩
        obtain ⟨l, hll, hl2⟩ := list_of len hex
        refine ⟨l, some ad, cap, by rw [hll], by omega, hm, fun h => (by cases h), fun h0 => ?_⟩
        obtain ⟨r0, hr0, hl0, _⟩ := hl2 0 h0
        have hp := a.size_pos
        have hc0 := hr0 0 r0[0] (List.getElem?_eq_getElem (by omega))
        have hsp : ad.spot = none := by
          have := spot_of_cell hc0
          simpa [Addr.add] using this
        obtain ⟨b, off, sp⟩ := ad
        simp only at hsp
        subst hsp
        refine ⟨b, off, rfl, ?_, fun k' hk' => ?_⟩
        · have := block_lt_of_cell hc0
          simpa [Addr.add] using this
        · obtain ⟨r, hr1, _, hr2⟩ := hl2 k' hk'
          exact ⟨r, fun j v hv => by have := hr1 j v hv; simpa [Addr.add_lit] using this, hr2⟩
    · rename_i fs hu
      simp only [Bool.and_eq_true, beq_iff_eq] at hf
      obtain ⟨xs, m, _, _, hcl, hxl, hat⟩ := DataW.trod_struct hu h
      have key : ∀ (l : List Field) (off i : Nat) (d : Ds) (cs' : List Value), fitsG P (fits P n) l off d = true → cs'.length = d.size → cs.drop off = cs' → (∀ (j : Nat) (f : Field), l[j]? = some f → fs.toList[i + j]? = some f) →
          ∃ e : El d, Rd w w.heap.size d cs' e := by
        intro l
        induction l with
        | nil => intro off i d cs' hg; simp [fitsG] at hg
        | cons f l ih =>
          intro off i d cs' hg hcl' hd hj
          have hfi : fs[i]? = some f := by have := hj 0 f rfl; simpa using this
          have hlt : i < xs.length := by rw [hxl]; exact (Array.getElem?_eq_some_iff.1 hfi).1
          have ht := hat i f hfi
          rw [List.getElem?_eq_getElem hlt] at ht
          cases l with
          | nil =>
            simp only [fitsG, Bool.and_eq_true, beq_iff_eq] at hg
            rw [hg.1.1, hg.1.2, hd, List.take_of_length_le (by omega)] at ht
            exact rd_of_trod n f.type d m cs' _ hg.2 ht
          | cons g l =>
            cases d with
            | pair a b =>
              simp only [fitsG, Bool.and_eq_true, beq_iff_eq] at hg
              obtain ⟨⟨⟨g1, g2⟩, g3⟩, g4⟩ := hg
              rw [g1, g2, hd] at ht
              obtain ⟨e1, he1⟩ := rd_of_trod n f.type a m _ _ g3 ht
              obtain ⟨e2, he2⟩ := ih (off + a.size) (i + 1) b (cs'.drop a.size) g4 (by rw [List.length_drop, hcl']; simp [Ds.size]) (by rw [← hd, List.drop_drop]) (fun j f' hf' => by have := hj (j + 1) f' (by simpa using hf'); rw [← this]; congr 1; omega)
              exact ⟨(e1, e2), cs'.take a.size, cs'.drop a.size, (List.take_append_drop _ _).symm, he1, he2⟩
            | _ => simp [fitsG] at hg
      exact key fs.toList 0 0 _ cs hf.2 (by rw [hcl, hf.1]) (by simp) (fun j f' hf' => by simpa using hf')
    · cases hf

theorem rd_arg {d : Ds} {t : TypeId} {v : Value} {x : DataW H} {p : List MemPlace} (hf : fits P 20 t d = true) (h : DataW.Trod enc P w base spare held t v x p) : ∃ e : El d, Rd w w.heap.size d v.cells.toList e := by
  obtain ⟨fuel, hf'⟩ := h
  exact rd_of_trod 20 t d fuel _ _ hf hf'
end

/-- data as the proof's plain values -/
def avs : (d : Ds) → El d → List AV
  | .int, n => [iv n]
  | .str, s => [sv s]
  | .bool, b => [bv b]
  | .pair a b, p => avs a p.1 ++ avs b p.2
  | .slice a, l => [.sl (List.length l) a.size false (rows (avs a) l)]
theorem avs_len : ∀ (d : Ds) (x : El d), (avs d x).length = d.size
  | .int, _ => rfl
  | .str, _ => rfl
  | .bool, _ => rfl
  | .pair a b, p => by simp only [avs, List.length_append, avs_len a, avs_len b, Ds.size]
  | .slice a, l => rfl
/-- what is known of any argument -/
def okD : (d : Ds) → El d → Prop
  | .int, n => -9223372036854775808 ≤ n ∧ n ≤ 9223372036854775807
  | .str, s => ByteArray.size s ≤ maxLen
  | .bool, _ => True
  | .pair a b, p => okD a p.1 ∧ okD b p.2
  | .slice a, l => ∀ (k : Nat) (h : k < List.length l), okD a (l[k])
theorem Rd.ok {w : World} {B : Nat} : ∀ {d : Ds} {cs : List Value} {x : El d}, Rd w B d cs x → okD d x
  | .int, cs, x, h => h.2
  | .str, cs, x, h => h.2
  | .bool, cs, x, h => trivial
  | .pair a b, cs, x, ⟨c1, c2, e, h1, h2⟩ => ⟨Rd.ok h1, Rd.ok h2⟩
  | .slice a, cs, x, ⟨A, c, e, hl, hm, h0, h⟩ => fun k hk => by
    obtain ⟨b, off, _, _, hi⟩ := h (by omega)
    obtain ⟨r, _, hr⟩ := hi k hk
    exact Rd.ok hr
theorem RepC.append {w : World} {g : Gh} : ∀ {cs ds : List AV} {b off : Nat}, RepC w g cs b off → RepC w g ds b (off + cs.length) → RepC w g (cs ++ ds) b off
  | [], ds, b, off, _, h => by simpa using h
  | c :: cs, ds, b, off, h, k => by
    simp only [RepC, List.cons_append] at h ⊢
    refine ⟨h.1, RepC.append h.2 ?_⟩
    rw [show off + 1 + cs.length = off + (c :: cs).length by simp; omega]
    exact k
theorem RepC.of_list {w : World} {g : Gh} {b : Nat} : ∀ {cs : List AV} {us : List Value} {off : Nat}, RepL w g cs us → (∀ j v, us[j]? = some v → w.cell? ⟨b, off + j, none⟩ = some v) → RepC w g cs b off
  | [], us, off, _, _ => by simp only [RepC]
  | c :: cs, us, off, h, k => by
    simp only [RepL] at h
    obtain ⟨u, us', rfl, h1, h2⟩ := h
    simp only [RepC]
    refine ⟨⟨u, k 0 u rfl, h1⟩, RepC.of_list h2 fun j v hv => ?_⟩
    have := k (j + 1) v (by simpa using hv)
    rw [show off + 1 + j = off + (j + 1) by omega]
    exact this
theorem rep_rd {w : World} {B : Nat} {g : Gh} (hg : ∀ k, k < B → g.D k) : ∀ (d : Ds) (cs : List Value) (x : El d), Rd w B d cs x → RepL w g (avs d x) cs
  | .int, cs, x, h => by rw [h.1]; simp only [avs, RepL]; exact ⟨_, [], rfl, by simp only [Rep], rfl⟩
  | .str, cs, x, h => by rw [h.1]; simp only [avs, RepL]; exact ⟨_, [], rfl, by simp only [Rep], rfl⟩
  | .bool, cs, x, h => by rw [show cs = _ from h]; simp only [avs, RepL]; exact ⟨_, [], rfl, by simp only [Rep], rfl⟩
  | .pair a b, cs, x, ⟨c1, c2, e, h1, h2⟩ => by rw [e]; simp only [avs]; exact (rep_rd hg a c1 x.1 h1).append (rep_rd hg b c2 x.2 h2)
  | .slice a, cs, l, ⟨A, c, e, hl, hm, h0, h⟩ => by
    rw [e]
    simp only [avs, RepL]
    refine ⟨_, [], rfl, ?_, rfl⟩
    simp only [Rep]
    refine ⟨rows_len (avs_len a) l, A, c, rfl, hl, hm, fun h => (by cases h), h0, fun hne => ?_⟩
    have hpos : 0 < List.length l := by
      rcases Nat.eq_zero_or_pos (List.length l) with h' | h'
      · have : l = [] := List.eq_nil_of_length_eq_zero h'
        subst this; exact absurd rfl hne
      · exact h'
    obtain ⟨b, off, eA, hb, hi⟩ := h hpos
    refine ⟨b, off, eA, hg b hb, ?_⟩
    have key : ∀ (m : List (El a)) (o : Nat), (∀ k (hk : k < m.length), ∃ r, (∀ j v, r[j]? = some v → w.cell? ⟨b, o + k * a.size + j, none⟩ = some v) ∧ RepL w g (avs a m[k]) r) → RepC w g (rows (avs a) m) b o := by
      intro m
      induction m with
      | nil => intro o _; simp only [rows, List.flatMap_nil, RepC]
      | cons x m ih =>
        intro o hm'
        simp only [rows, List.flatMap_cons]
        obtain ⟨r, hr1, hr2⟩ := hm' 0 (by simp)
        refine RepC.append (RepC.of_list hr2 fun j v hv => by have := hr1 j v hv; simpa using this) ?_
        rw [avs_len]
        refine ih (o + a.size) fun k hk => ?_
        obtain ⟨r, hr1, hr2⟩ := hm' (k + 1) (by simpa using hk)
        refine ⟨r, fun j v hv => ?_, by simpa using hr2⟩
        have := hr1 j v hv
        rw [show o + a.size + k * a.size + j = o + (k + 1) * a.size + j by rw [Nat.add_mul]; omega]
        exact this
    exact key l off fun k hk => by
      obtain ⟨r, hr1, hr2⟩ := hi k hk
      exact ⟨r, hr1, rep_rd hg a r _ hr2⟩
/-- the ghosts at a law's start -/
def g0 (w : World) : Gh := ⟨fun k => k < w.heap.size, fun _ _ => none, []⟩
theorem sim0 (w : World) (hG : GlobW w) : SimH w (g0 w) [] :=
  ⟨fun id ver ty s c h => (by simp at h), fun i j k hi _ => by obtain ⟨_, _, _, _, _, _, h, _⟩ := hi; simp at h, fun k hk => hk, fun id ver l h => (by simp [g0] at h), fun id ver l h => (by simp [g0] at h), ⟨hG, hG.lt⟩⟩
/-- a law's walk -/
theorem law_calls {P : Program} {f : FuncId} {args : List AV} (hc : ACalls P f args [] fun x h' => h' = [] ∧ x = .ret (bv true)) {w : World} (hG : GlobW w) {vs : Array Value} (hr : RepL w (g0 w) args vs.toList) :
    Calls P f vs w fun e w' => e = .returned (.bool true) ∧ Below w.heap.size w w' := by
  refine (hc.2 w (g0 w) vs (sim0 w hG) hr).mono ?_
  rintro e w' ⟨x, h', g', h1, h2, h3, h4, h5, rfl, rfl⟩
  cases e <;> simp only [EndR] at h1
  simp only [Rep] at h1
  refine ⟨by rw [h1], h4.os, h4.tape, h4.output, h4.size, fun k hk => h4.block k hk ?_⟩
  rintro ⟨i, _, _, _, _, _, _, h, _⟩
  simp at h
section
variable {H : Type} {enc : TypeId × Value → H} {P : Program} {w : World} {base : Nat} {spare : Nat → Bool} {held : Bool}
/-- an argument that is a struct -/
theorem arg_struct (d : Ds) {t : TypeId} {v : Value} {x : DataW H} {p : List MemPlace} {fs : Array Field} {r : Reach} {b : Nat} (ht : P.underlying t = some (.struct fs)) (hf : fits P 20 t d = true) (hv : Value.okWide P w r b t v) (h : DataW.Trod enc P w base spare held t v x p) :
    ∃ e : El d, okD d e ∧ Rep w (g0 w) (.agg (avs d e)) v := by
  obtain ⟨e, he⟩ := rd_arg hf h
  obtain ⟨cs, rfl, _⟩ := okWide_struct ht hv
  refine ⟨e, he.ok, ?_⟩
  simp only [Rep]
  exact ⟨cs, rfl, rep_rd (fun k hk => hk) d _ e he⟩
/-- an argument of one cell -/
theorem arg_cell (d : Ds) {t : TypeId} {v : Value} {x : DataW H} {p : List MemPlace} (hf : fits P 20 t d = true) (hv : v.cells = #[v]) (h : DataW.Trod enc P w base spare held t v x p) :
    ∃ e : El d, okD d e ∧ RepL w (g0 w) (avs d e) [v] := by
  obtain ⟨e, he⟩ := rd_arg hf h
  refine ⟨e, he.ok, ?_⟩
  have := rep_rd (g := g0 w) (fun k hk => hk) d _ e he
  rwa [hv] at this
theorem arg_slice (d : Ds) {t el : TypeId} {v : Value} {x : DataW H} {p : List MemPlace} {r : Reach} {b : Nat} (ht : P.underlying t = some (.slice el)) (hf : fits P 20 t (.slice d) = true) (hv : Value.okWide P w r b t v) (h : DataW.Trod enc P w base spare held t v x p) :
    ∃ e : List (El d), okD (.slice d) e ∧ Rep w (g0 w) (.sl e.length d.size false (rows (avs d) e)) v := by
  obtain ⟨a, l, c, rfl⟩ := okWide_slice ht hv
  obtain ⟨e, he, hr⟩ := arg_cell (.slice d) hf rfl h
  simp only [avs, RepL] at hr
  obtain ⟨u, us, h1, h2, rfl⟩ := hr
  cases h1
  exact ⟨e, he, h2⟩
theorem arg_int {t : TypeId} {v : Value} {x : DataW H} {p : List MemPlace} {r : Reach} {b : Nat} (ht : P.underlying t = some (.int .i64)) (hv : Value.okWide P w r b t v) (h : DataW.Trod enc P w base spare held t v x p) :
    ∃ e : Int, (-9223372036854775808 ≤ e ∧ e ≤ 9223372036854775807) ∧ Rep w (g0 w) (iv e) v := by
  obtain ⟨n, rfl⟩ := okWide_int ht hv
  obtain ⟨e, he, hr⟩ := arg_cell .int (by simp [fits, ht]) rfl h
  simp only [avs, RepL] at hr
  obtain ⟨u, us, h1, h2, rfl⟩ := hr
  cases h1
  exact ⟨e, he, h2⟩
theorem arg_str {t : TypeId} {v : Value} {x : DataW H} {p : List MemPlace} {r : Reach} {b : Nat} (ht : P.underlying t = some .string) (hv : Value.okWide P w r b t v) (h : DataW.Trod enc P w base spare held t v x p) :
    ∃ e : ByteArray, e.size ≤ maxLen ∧ Rep w (g0 w) (sv e) v := by
  obtain ⟨n, rfl⟩ := okWide_string ht hv
  obtain ⟨e, he, hr⟩ := arg_cell .str (by simp [fits, ht]) rfl h
  simp only [avs, RepL] at hr
  obtain ⟨u, us, h1, h2, rfl⟩ := hr
  cases h1
  exact ⟨e, he, h2⟩
end
theorem repL1 {w : World} {g : Gh} {c : AV} {v : Value} {cs : List AV} {vs : List Value} (h : Rep w g c v) (hs : RepL w g cs vs) : RepL w g (c :: cs) (v :: vs) := by simp only [RepL]; exact ⟨v, vs, rfl, h, hs⟩
theorem repL0 {w : World} {g : Gh} : RepL w g [] [] := by simp only [RepL]

end Go.Proofs.YtgjchdhdopgkkaaDoor
