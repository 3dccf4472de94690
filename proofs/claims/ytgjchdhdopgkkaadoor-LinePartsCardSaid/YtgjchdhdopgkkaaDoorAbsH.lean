/-
  Contracts of the library, told of cells, taken over to plain data. No condition.
-/
import Derived.Test.YtgjchdhdopgkkaaDoorAbsG
set_option linter.unusedVariables false
set_option linter.unusedSimpArgs false
namespace Go.Ab
open Go.RowKit
section
variable {P : Program}
/-- a call that leaves what lay, and hands back what names no memory -/
theorem ACalls.of_below {f : FuncId} {args : List AV} {h : AH} {c : AV} (he : enters P f = true)
    (hc : ∀ w g (vs : Array Value), SimH w g h → RepL w g args vs.toList → Calls P f vs w fun e w' => ∃ v, e = .returned v ∧ Below w.heap.size w w' ∧ Rep w' g c v) : ACalls P f args h fun x h' => h' = h ∧ x = .ret c := by
  refine ⟨he, fun w g vs hs ha => (hc w g vs hs ha).mono ?_⟩
  rintro e w' ⟨v, rfl, hb, hr⟩
  have hold : ∀ k, k < w.heap.size → w'.heap[k]? = w.heap[k]? := fun k hk => hb.block k hk
  have hs' : SimH w' g h := hs.world (fun k hk => hold k (hk.elim (hs.lt k) (fun ho => (hs.own_not_D ho).2))) hb.size
  exact ⟨.ret c, h, g, hr, hs', Gh.le.refl g, ⟨hb.os, hb.tape, hb.output, hb.size, fun k hk _ => hold k hk⟩, fun k hk => .inl hk, rfl, rfl⟩
/-- a call that hands back a slice of a row of its own making, from now on read alone -/
theorem ACalls.of_newrow {f : FuncId} {args : List AV} {h : AH} {n st : Nat} {cs : List AV} (he : enters P f = true) (hcs : cs.length = n * st) (hleaf : ∀ w g w' g' us, RepL w g cs us → RepL w' g' cs us)
    (hc : ∀ w g (vs : Array Value), SimH w g h → RepL w g args vs.toList → Calls P f vs w fun e w' => ∃ b cap arr ty fr, e = .returned (.slice (some ⟨b, 0, none⟩) n cap) ∧ n ≤ cap ∧ cap ≤ maxLen ∧ w.heap.size ≤ b ∧ w'.heap[b]? = some (.cells arr ty fr) ∧ Below w.heap.size w w' ∧ RepL w' g cs (arr.toList.take cs.length)) :
    ACalls P f args h fun x h' => h' = h ∧ x = .ret (.sl n st false cs) := by
  refine ⟨he, fun w g vs hs ha => (hc w g vs hs ha).mono ?_⟩
  rintro e w' ⟨b, cap, arr, ty, fr, rfl, h1, h2, h3, hb, hbw, hr⟩
  have hb' : b < w'.heap.size := (Array.getElem?_eq_some_iff.1 hb).1
  let g' : Gh := ⟨fun k => g.D k ∨ k = b, g.loc, g.df⟩
  have hle : g.le g' := ⟨fun _ h => .inl h, fun _ _ _ h => h⟩
  have hold : ∀ k, k < w.heap.size → w'.heap[k]? = w.heap[k]? := fun k hk => hbw.block k hk
  have hs' : SimH w' g' h := by
    refine ⟨?_, fun i j k h1 h2 => hs.inj i j k h1 h2, ?_, fun id ver l hl => hs.fresh id ver l hl, fun id ver l hl => hs.free id ver l hl, hs.glob.mono hle.D (fun k hk => hold k (hs.lt k hk))⟩
    · intro id ver ty st cells he
      obtain ⟨A0, cap0, f1, f2, f3⟩ := hs.ent id ver ty st cells he
      refine ⟨A0, cap0, f1, f2, f3.mono hle ?_ (fun k hk => hold k (hs.lt k hk)) ?_⟩
      · intro k hk h0 hd
        rcases hd with hd | rfl
        · exact hd
        · have := (hs.own_not_D (k := k) ⟨id, by
            obtain ⟨a0, ea, rfl⟩ := Option.map_eq_some_iff.1 hk
            exact ⟨ver, ty, st, cells, a0, cap0, he, by rw [f1, ea], h0, rfl⟩⟩).2
          omega
      · intro k hk h0
        refine hold k (hs.own_not_D (k := k) ⟨id, ?_⟩).2
        obtain ⟨a0, ea, rfl⟩ := Option.map_eq_some_iff.1 hk
        exact ⟨ver, ty, st, cells, a0, cap0, he, by rw [f1, ea], h0, rfl⟩
    · rintro k (hk | rfl)
      · exact Nat.lt_of_lt_of_le (hs.lt k hk) hbw.size
      · exact hb'
  refine ⟨.ret (.sl n st false cs), h, g', ?_, hs', hle, ⟨hbw.os, hbw.tape, hbw.output, hbw.size, fun k hk _ => hold k hk⟩, fun k hk => .inl hk, rfl, rfl⟩
  simp only [EndR, Rep]
  refine ⟨hcs, _, _, rfl, h1, h2, (fun h => by simp at h), (fun h => by simp at h), fun _ => ⟨b, 0, rfl, .inr rfl, RepC.of_row hb _ 0 ?_⟩⟩
  rw [List.drop_zero]
  exact hleaf _ _ _ _ _ hr
theorem repL_v {α : Type} (f : α → Value) {w : World} {g : Gh} : ∀ {l : List α} {vs : List Value}, RepL w g (rows (fun x => [AV.v (f x)]) l) vs ↔ vs = l.map f
  | [], vs => by simp [rows, RepL]
  | n :: l, vs => by
    rw [show rows (fun x => [AV.v (f x)]) (n :: l) = AV.v (f n) :: rows (fun x => [AV.v (f x)]) l from rfl]
    simp only [RepL, Rep, List.map_cons]
    constructor
    · rintro ⟨u, us, rfl, rfl, h⟩
      rw [(repL_v f).1 h]
    · rintro rfl
      exact ⟨_, _, rfl, rfl, (repL_v f).2 rfl⟩
end
end Go.Ab
