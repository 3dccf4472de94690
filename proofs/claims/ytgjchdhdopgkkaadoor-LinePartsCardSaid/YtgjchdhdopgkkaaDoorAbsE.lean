/-
  More rules for stepping: joins, loops, what is forgotten. No condition.
-/
import Derived.Test.YtgjchdhdopgkkaaDoorAbsD
set_option linter.unusedVariables false
set_option linter.unusedSimpArgs false
namespace Go.Ab
section
variable {P : Program} {n0 : Nat}
/-- more is known, all the more holds -/
theorem AX.thn_mono {N N' : List AV → AH → Prop} {Q Q' : AX → List AV → AH → Prop} (hn : ∀ T h, N T h → N' T h) (hq : ∀ x T h, Q x T h → Q' x T h) : ∀ x T h, AX.thn N Q x T h → AX.thn N' Q' x T h := by
  intro x T h hx
  cases x <;> simp only [AX.thn] at hx ⊢ <;> first | exact hn _ _ hx | exact hq _ _ _ hx
theorem aCall_mono {f : AV} {xs : List AV} {h : AH} {R R' : AE → AH → Prop} (hr : ∀ r h, R r h → R' r h) (hc : aCall P f xs h R) : aCall P f xs h R' := by
  unfold aCall at *
  split
  · exact ⟨hc.1, hc.2.1, hc.2.2.mono hr⟩
  · exact hc.mono hr
  · rename_i h1 h2
    split at hc
    · exact absurd rfl (h1 _ _ _)
    · exact absurd rfl (h2 _ _)
    · exact hc
theorem astep_mono {Kp Kp' : AV → List AV → AH → Prop} {K K' : List AV → AH → Prop} (hp : ∀ c T h, Kp c T h → Kp' c T h) (hk : ∀ T h, K T h → K' T h) {o : AOper} {T : List AV} {h : AH} (hs : astep P Kp o T h K) : astep P Kp' o T h K' := by
  unfold astep at *
  split
  · rename_i heq
    rw [heq] at hs
    refine aCall_mono ?_ hs
    intro r h' hr
    cases r <;> first | exact hk _ _ hr | exact hp _ _ _ hr
  · rename_i heq
    rw [heq] at hs
    dsimp only at hs
    split at hs
    · exact hp _ _ _ hs
    · exact hs.elim
  · rename_i heq
    rw [heq] at hs
    dsimp only at hs
    split at hs <;> rename_i hx
    · exact fun b hb => hk _ _ (hs b hb)
    · exact hs.elim
  · rename_i h1 h2 h3
    have hs' : (match aval h (aEval T) o.op with
      | some c => K (aPut T o.dst c) h
      | none => match aeff h (aEval T) o.op with
        | some (c, h') => K (aPut T o.dst c) h'
        | none => False) := by
      split at hs
      · rename_i heq; exact absurd heq (h1 _ _)
      · rename_i heq; exact absurd heq (h2 _)
      · rename_i heq; exact absurd heq (h3 _ _)
      · exact hs
    cases hv : aval h (aEval T) o.op with
    | some c => rw [hv] at hs'; exact hk _ _ hs'
    | none =>
      rw [hv] at hs'
      cases hv2 : aeff h (aEval T) o.op with
      | some p => rw [hv2] at hs'; exact hk _ _ hs'
      | none => rw [hv2] at hs'; exact hs'
theorem arun_mono {Kp Kp' : AV → List AV → AH → Prop} {K K' : List AV → AH → Prop} (hp : ∀ c T h, Kp c T h → Kp' c T h) (hk : ∀ T h, K T h → K' T h) : ∀ (l : List AOper) (T : List AV) (h : AH), arun P Kp l T h K → arun P Kp' l T h K'
  | [], T, h, hr => hk _ _ hr
  | o :: l, T, h, hr => agd_mono (fun b ⟨h1, h2⟩ => ⟨fun e => astep_mono hp (fun T h hr => arun_mono hp hk l T h hr) (h1 e), fun e => arun_mono hp hk l _ _ (h2 e)⟩) hr
theorem adstep_mono {rs : List Nat} {K K' : List AV → AH → Prop} (hk : ∀ T h, K T h → K' T h) {h0 : AH} {o : AOper} {T : List AV} {ents : AH} (hs : adstep P rs h0 o T ents K) : adstep P rs h0 o T ents K' := by
  unfold adstep at *
  split
  · rename_i heq
    rw [heq] at hs
    obtain ⟨c, h1, h2⟩ := hs
    exact ⟨c, h1, hk _ _ h2⟩
  · rename_i agg sz x heq
    rw [heq] at hs
    dsimp only at hs
    split at hs <;> rename_i hx
    · split at hs <;> rename_i hy
      · exact hk _ _ hs
      · exact hs.elim
    · obtain ⟨ty, s, cells, c, h1, h2, h3, h4⟩ := hs
      exact ⟨ty, s, cells, c, h1, h2, h3, hk _ _ h4⟩
    · exact hs.elim
  · rename_i h1 h1b
    have hs' : (match aval h0 (aEval T) o.op with
      | some c => K (aPut T o.dst c) ents
      | none => ∃ c ent, (aallo (h0.length + ents.length) (aEval T) o.op = some (c, ent) ∨ aalloI (h0.length + ents.length) (aEval T) o.op = some (c, ent)) ∧ K (aPut T o.dst c) (ents ++ [ent])) := by
      split at hs
      · rename_i heq; exact absurd heq (h1 _ _)
      · rename_i heq; exact absurd heq (h1b _ _ _)
      · exact hs
    cases hv : aval h0 (aEval T) o.op with
    | some c => rw [hv] at hs'; exact hk _ _ hs'
    | none =>
      rw [hv] at hs'
      obtain ⟨c, ent, h1, h2⟩ := hs'
      exact ⟨c, ent, h1, hk _ _ h2⟩
theorem adrun_mono {rs : List Nat} {K K' : List AV → AH → Prop} (hk : ∀ T h, K T h → K' T h) {h0 : AH} : ∀ (l : List AOper) (T : List AV) (h : AH), adrun P rs h0 l T h K → adrun P rs h0 l T h K'
  | [], T, h, hr => hk _ _ hr
  | o :: l, T, h, hr => agd_mono (fun b ⟨h1, h2⟩ => ⟨fun e => adstep_mono (fun T h hr => adrun_mono hk l T h hr) (h1 e), fun e => adrun_mono hk l _ _ (h2 e)⟩) hr
theorem astepK_mono {rs : List Nat} {K K' : List AV → AH → Prop} (hk : ∀ T h, K T h → K' T h) {o : AOper} {T : List AV} {h : AH} (hs : astepK P rs o T h K) : astepK P rs o T h K' := by
  unfold astepK at *
  split
  · rename_i heq
    rw [heq] at hs
    obtain ⟨c, h', h1, h2, h3⟩ := hs
    exact ⟨c, h', h1, h2, hk _ _ h3⟩
  · rename_i heq; rw [heq] at hs; exact hs
  · rename_i heq; rw [heq] at hs; exact hs
  · rename_i h1 h2 h3
    have hs' : (match aval h (aEval T) o.op with
      | some c => K (aPut T o.dst c) h
      | none => match aeff h (aEval T) o.op with
        | some (c, h') => (∀ id ∈ rs, h'[id]? = h[id]?) ∧ K (aPut T o.dst c) h'
        | none => False) := by
      split at hs
      · rename_i heq; exact absurd heq (h1 _ _)
      · rename_i heq; exact absurd heq (h2 _)
      · rename_i heq; exact absurd heq (h3 _ _)
      · exact hs
    cases hv : aval h (aEval T) o.op with
    | some c => rw [hv] at hs'; exact hk _ _ hs'
    | none =>
      rw [hv] at hs'
      cases hv2 : aeff h (aEval T) o.op with
      | some p => rw [hv2] at hs'; exact ⟨hs'.1, hk _ _ hs'.2⟩
      | none => rw [hv2] at hs'; exact hs'
theorem arunK_mono {rs : List Nat} {K K' : List AV → AH → Prop} (hk : ∀ T h, K T h → K' T h) : ∀ (q : List Bool) (l : List AOper) (T : List AV) (h : AH), arunK P rs q l T h K → arunK P rs q l T h K'
  | q, [], T, h, hr => by cases q <;> exact hk _ _ hr
  | q, o :: l, T, h, hr => agd_mono (fun b ⟨h1, h2⟩ => ⟨fun e => astepK_mono (fun T h hr => arunK_mono hk q.tail l T h hr) (h1 e), fun e => arunK_mono hk q.tail l _ _ (h2 e)⟩) hr
theorem aw_mono : ∀ (c : AC) {Q Q' : AX → List AV → AH → Prop}, (∀ x T h, Q x T h → Q' x T h) → ∀ T h, aw P n0 c Q T h → aw P n0 c Q' T h := by
  intro c
  induction c with
  | skip => intro Q Q' hq T h hw; exact hq _ _ _ hw
  | reg al => intro Q Q' hq T h hw; exact arun_mono (fun c T h hk => hq _ _ _ hk) (fun T h hk => hq _ _ _ hk) _ _ _ hw
  | drw b q t =>
    intro Q Q' hq T h hw
    obtain ⟨rs, hw⟩ := hw
    exact ⟨rs, adrun_mono (fun T h hk => arunK_mono (fun T h hk => hq _ _ _ hk) _ _ _ _ hk) _ _ _ hw⟩
  | seq a b iha ihb =>
    intro Q Q' hq T h hw
    exact iha (AX.thn_mono (fun T h ⟨T1, h1, hl, hk⟩ => ⟨T1, h1, hl, ihb hq _ _ hk⟩) hq) _ _ hw
  | cond c a b iha ihb =>
    intro Q Q' hq T h hw
    simp only [aw] at hw ⊢
    split at hw <;> rename_i hx <;> try (exact hw.elim)
    exact ⟨fun e => iha hq _ _ (hw.1 e), fun e => ihb hq _ _ (hw.2 e)⟩
  | block id a iha =>
    intro Q Q' hq T h hw
    refine iha ?_ _ _ hw
    intro x T h hx
    cases x <;> simp only [AX.blk] at hx ⊢ <;> try (exact hq _ _ _ hx)
    split at hx
    · rename_i e; rw [if_pos e]; exact hq _ _ _ hx
    · rename_i e; rw [if_neg e]; exact hq _ _ _ hx
  | loop a iha =>
    intro Q Q' hq T h hw
    obtain ⟨I, n, h0, hr⟩ := hw
    exact ⟨I, n, h0, fun n T h hI => iha (AX.thn_mono (fun _ _ hk => hk) hq) _ _ (hr n T h hI)⟩
  | exit id => intro Q Q' hq T h hw; exact hq _ _ _ hw
  | ret => intro Q Q' hq T h hw; exact hq _ _ _ hw

/-- a value told with less -/
def Wk (c d : AV) : Prop := ∀ (w : World) (g : Gh) (v : Value), Rep w g c v → Rep w g d v
theorem Wk.refl (c : AV) : Wk c c := fun _ _ _ h => h
theorem Wk.any (c : AV) : Wk c .any := fun _ _ _ _ => by simp only [Rep]
theorem Wk.trans {a b c : AV} (h : Wk a b) (k : Wk b c) : Wk a c := fun w g v x => k w g v (h w g v x)
theorem Wk.nil {st st' : Nat} {full : Bool} : Wk (.sl 0 st full []) (.sl 0 st' full []) := fun w g v h => by
  simp only [Rep] at h ⊢
  obtain ⟨_, A, cap, h1, h2, h3, h4, h5, _⟩ := h
  exact ⟨by simp, A, cap, h1, h2, h3, h4, h5, fun h => absurd rfl h⟩
theorem Wk.full {n st : Nat} {full : Bool} {cs : List AV} : Wk (.sl n st full cs) (.sl n st false cs) := fun w g v h => by
  simp only [Rep] at h ⊢
  obtain ⟨h0, A, cap, h1, h2, h3, h4, h5, h6⟩ := h
  exact ⟨h0, A, cap, h1, h2, h3, fun h => (by cases h), h5, h6⟩
theorem Wk.nilF {st st' : Nat} {full : Bool} : Wk (.sl 0 st full []) (.sl 0 st' false []) := Wk.nil.trans Wk.full
def WkL : List AV → List AV → Prop
  | [], [] => True
  | c :: cs, d :: ds => Wk c d ∧ WkL cs ds
  | _, _ => False
theorem WkL.refl : ∀ l, WkL l l
  | [] => trivial
  | c :: cs => ⟨Wk.refl c, WkL.refl cs⟩
theorem RepL.wk {w : World} {g : Gh} : ∀ {cs ds : List AV} {vs : List Value}, WkL cs ds → RepL w g cs vs → RepL w g ds vs
  | [], [], vs, _, h => h
  | c :: cs, d :: ds, vs, hs, h => by
    simp only [RepL] at h ⊢
    obtain ⟨u, us, e, h1, h2⟩ := h
    exact ⟨u, us, e, hs.1 _ _ _ h1, RepL.wk hs.2 h2⟩
  | [], _ :: _, _, hs, _ => hs.elim
  | _ :: _, [], _, hs, _ => hs.elim
theorem Wk.agg {cs ds : List AV} (h : WkL cs ds) : Wk (.agg cs) (.agg ds) := fun w g v hr => by
  simp only [Rep] at hr ⊢
  obtain ⟨vs, e, hc⟩ := hr
  exact ⟨vs, e, hc.wk h⟩
theorem Wk.tup {cs ds : List AV} (h : WkL cs ds) : Wk (.tup cs) (.tup ds) := fun w g v hr => by
  simp only [Rep] at hr ⊢
  obtain ⟨vs, e, hc⟩ := hr
  exact ⟨vs, e, hc.wk h⟩
theorem ALe.wk {T T1 : List AV} {h : AH} (hs : WkL T T1) : ALe n0 T h T1 h := fun w0 S0 g0 a w g st => ⟨g, st.tmps.wk hs, st.defers, st.sim, st.fr, st.le, st.bd, st.ow⟩
theorem ACalls.wk {f : FuncId} {as1 bs : List AV} {h : AH} {R : AE → AH → Prop} (hw : WkL as1 bs) (hc : ACalls P f bs h R) : ACalls P f as1 h R := ⟨hc.1, fun w g vs hs ha => hc.2 w g vs hs (ha.wk hw)⟩

section code
variable {Kp : AV → List AV → AH → Prop} {K N : List AV → AH → Prop} {Q : AX → List AV → AH → Prop} {T : List AV} {h : AH} {a b : AC} {i j : Nat}
theorem s_nil (hk : K T h) : arun P Kp [] T h K := hk
theorem d_nil {rs : List Nat} {h0 : AH} (hk : K T h) : adrun P rs h0 [] T h K := hk
theorem w_skip (hq : Q .normal T h) : aw P n0 .skip Q T h := hq
theorem w_exit (hq : Q (.exit i) T h) : aw P n0 (.exit i) Q T h := hq
theorem w_rets (hq : Q .ret T h) : aw P n0 .ret Q T h := hq
/-- on to the next piece -/
theorem n_seq (hr : aw P n0 b Q T h) : AX.thn (fun T h => ∃ T1 h1, ALe n0 T h T1 h1 ∧ aw P n0 b Q T1 h1) Q .normal T h := ⟨T, h, ALe.refl, hr⟩
theorem n_seqw {T1 : List AV} {h1 : AH} (hl : ALe n0 T h T1 h1) (hr : aw P n0 b Q T1 h1) : AX.thn (fun T h => ∃ T1 h1, ALe n0 T h T1 h1 ∧ aw P n0 b Q T1 h1) Q .normal T h := ⟨T1, h1, hl, hr⟩
theorem n_thn (hr : N T h) : AX.thn N Q .normal T h := hr
theorem n_blk (hr : Q .normal T h) : AX.blk i Q .normal T h := hr
theorem x_thn (hr : Q (.exit i) T h) : AX.thn N Q (.exit i) T h := hr
theorem x_blk (hr : Q .normal T h) : AX.blk i Q (.exit i) T h := by simp only [AX.blk, if_true]; exact hr
theorem x_pas (hij : j ≠ i) (hr : Q (.exit j) T h) : AX.blk i Q (.exit j) T h := by simp only [AX.blk, if_neg hij]; exact hr
theorem r_thn (hr : Q .ret T h) : AX.thn N Q .ret T h := hr
theorem r_blk (hr : Q .ret T h) : AX.blk i Q .ret T h := hr
theorem w_condB {c : Operand} {t : Bool} (hc : aEval T c = bv t) (hy : t = true → aw P n0 a Q T h) (hn : t = false → aw P n0 b Q T h) : aw P n0 (.cond c a b) Q T h := by
  simp only [aw, hc]
  exact ⟨hy, hn⟩
/-- a test in a slot is decided both ways: any bool -/
theorem set_self {t : Nat} {c : AV} (ht : T[t]? = some c) : T.set t c = T := by
  apply List.ext_getElem?
  intro j
  by_cases hj : j = t
  · subst hj
    have : j < T.length := (List.getElem?_eq_some_iff.1 ht).1
    rw [List.getElem?_set_self this, ht]
  · rw [List.getElem?_set_ne (Ne.symm hj)]
theorem s_splitB {t : Nat} {p : Bool} {T1 T2 : List AV} {al : List AOper} (ht : T[t]? = some (bv p)) (hp1 : aPut T (some t) (bv true) = T1) (hp2 : aPut T (some t) (bv false) = T2) (hy : p = true → arun P Kp al T1 h K) (hn : p = false → arun P Kp al T2 h K) : arun P Kp al T h K := by
  have hs := set_self ht
  cases p
  · rw [← hs]; have := hn rfl; rw [← hp2] at this; exact this
  · rw [← hs]; have := hy rfl; rw [← hp1] at this; exact this
theorem d_splitB {rs : List Nat} {h0 : AH} {t : Nat} {p : Bool} {T1 T2 : List AV} {al : List AOper} (ht : T[t]? = some (bv p)) (hp1 : aPut T (some t) (bv true) = T1) (hp2 : aPut T (some t) (bv false) = T2) (hy : p = true → adrun P rs h0 al T1 h K) (hn : p = false → adrun P rs h0 al T2 h K) : adrun P rs h0 al T h K := by
  have hs := set_self ht
  cases p
  · rw [← hs]; have := hn rfl; rw [← hp2] at this; exact this
  · rw [← hs]; have := hy rfl; rw [← hp1] at this; exact this
theorem s_splitP {t : Nat} {p : Prop} [Decidable p] {T1 T2 : List AV} {al : List AOper} (ht : T[t]? = some (bv (decide p))) (hp1 : aPut T (some t) (bv true) = T1) (hp2 : aPut T (some t) (bv false) = T2) (hy : p → arun P Kp al T1 h K) (hn : ¬ p → arun P Kp al T2 h K) : arun P Kp al T h K :=
  s_splitB ht hp1 hp2 (fun e => hy (of_decide_eq_true e)) (fun e => hn (of_decide_eq_false e))
theorem d_splitP {rs : List Nat} {h0 : AH} {t : Nat} {p : Prop} [Decidable p] {T1 T2 : List AV} {al : List AOper} (ht : T[t]? = some (bv (decide p))) (hp1 : aPut T (some t) (bv true) = T1) (hp2 : aPut T (some t) (bv false) = T2) (hy : p → adrun P rs h0 al T1 h K) (hn : ¬ p → adrun P rs h0 al T2 h K) : adrun P rs h0 al T h K :=
  d_splitB ht hp1 hp2 (fun e => hy (of_decide_eq_true e)) (fun e => hn (of_decide_eq_false e))
/-- a test in a slot is known -/
theorem s_known {t : Nat} {p b : Bool} {T1 : List AV} {al : List AOper} (ht : T[t]? = some (bv p)) (hb : p = b) (hp1 : aPut T (some t) (bv b) = T1) (hy : arun P Kp al T1 h K) : arun P Kp al T h K := by
  have hs := set_self ht
  subst hb
  rw [← hs]; rw [← hp1] at hy; exact hy
theorem d_known {rs : List Nat} {h0 : AH} {t : Nat} {p b : Bool} {T1 : List AV} {al : List AOper} (ht : T[t]? = some (bv p)) (hb : p = b) (hp1 : aPut T (some t) (bv b) = T1) (hy : adrun P rs h0 al T1 h K) : adrun P rs h0 al T h K := by
  have hs := set_self ht
  subst hb
  rw [← hs]; rw [← hp1] at hy; exact hy
theorem w_condK {c : Operand} {p : Bool} (hc : aEval T c = bv p) (hp : p = true) (hy : aw P n0 a Q T h) : aw P n0 (.cond c a b) Q T h := w_condT (by rw [hc, hp]) hy
theorem w_condKF {c : Operand} {p : Bool} (hc : aEval T c = bv p) (hp : p = false) (hy : aw P n0 b Q T h) : aw P n0 (.cond c a b) Q T h := w_condF (by rw [hc, hp]) hy
/-- paths meet again -/
theorem w_seqc {ι : Type} (S : ι → List AV × AH) (J : ι → Prop) (ha : aw P n0 a (AX.thn (fun T h => ∃ i, J i ∧ ALe n0 T h (S i).1 (S i).2) Q) T h) (hb : ∀ i, J i → aw P n0 b Q (S i).1 (S i).2) : aw P n0 (.seq a b) Q T h :=
  aw_mono a (AX.thn_mono (fun T h ⟨i, hi, hl⟩ => ⟨_, _, hl, hb i hi⟩) (fun _ _ _ hq => hq)) T h ha

def setsT : List AV → List (Nat × AV) → List AV
  | T, [] => T
  | T, (k, c) :: ps => setsT (T.set k c) ps
def setsE : AH → List (Nat × Ent) → AH
  | E, [] => E
  | E, (k, e) :: ps => setsE (E.set k e) ps
/-- paths meet again: some slots, some entries have turned -/
theorem w_seqC {b : AC} {E : AH} {h0 : AH} {ι : Type} (f : ι → List (Nat × AV)) (g : ι → List (Nat × Ent)) (J : ι → Prop) (ha : aw P n0 a (AX.thn (fun T' h' => ∃ i, J i ∧ ALe n0 T' h' (setsT T (f i)) (h0 ++ setsE E (g i))) Q) T (h0 ++ E)) (hb : ∀ i, J i → aw P n0 b Q (setsT T (f i)) (h0 ++ setsE E (g i))) : aw P n0 (.seq a b) Q T (h0 ++ E) :=
  w_seqc (fun i => (setsT T (f i), h0 ++ setsE E (g i))) J ha hb
/-- a loop: some slots, some entries turn -/
theorem w_loop {E : AH} {h0 : AH} {ι : Type} (f : ι → List (Nat × AV)) (g : ι → List (Nat × Ent)) (I : ι → Prop) (m : ι → Nat) (i0 : ι) (hI : I i0) (hl : ALe n0 T (h0 ++ E) (setsT T (f i0)) (h0 ++ setsE E (g i0)))
    (round : ∀ i, I i → aw P n0 a (AX.thn (LoopTo n0 (fun i => (setsT T (f i), h0 ++ setsE E (g i))) I m i) Q) (setsT T (f i)) (h0 ++ setsE E (g i))) : aw P n0 (.loop a) Q T (h0 ++ E) :=
  aw_loop (fun i => (setsT T (f i), h0 ++ setsE E (g i))) I m i0 hI hl round
theorem LoopTo.to {ι : Type} {f : ι → List (Nat × AV)} {g : ι → List (Nat × Ent)} {T0 : List AV} {h0 E : AH} {I : ι → Prop} {m : ι → Nat} {i : ι} {T : List AV} {h : AH} (j : ι) (hm : m j < m i) (hI : I j) (hl : ALe n0 T h (setsT T0 (f j)) (h0 ++ setsE E (g j))) : LoopTo n0 (fun i => (setsT T0 (f i), h0 ++ setsE E (g i))) I m i T h :=
  LoopTo.mk j hm hI hl
/-- slots are forgotten, and entries behind -/
theorem ALe.back {T T1 : List AV} {h0 E E1 x : AH} {k : Nat} (hs : WkL T T1) (he : E = E1 ++ x) (hk : h0.length + E1.length = k) (hn : n0 ≤ k) (hT : AV.ltL k T1 = true) (hh : ∀ e ∈ h0, e.lt k = true) (hE : E1.all (Ent.lt k) = true) : ALe n0 T (h0 ++ E) T1 (h0 ++ E1) := by
  subst he hk
  refine (ALe.wk hs).trans ?_
  have hl : (h0 ++ E1).length = h0.length + E1.length := by simp
  rw [← List.append_assoc]
  refine ALe.cut (by rw [hl]; exact hn) (by rw [hl]; exact hT) ?_
  rw [hl]
  intro e he
  rcases List.mem_append.1 he with h1 | h1
  · exact hh e h1
  · exact List.all_eq_true.1 hE e h1
theorem ALe.same {T T1 : List AV} {h h1 : AH} (hs : WkL T T1) (he : h = h1) : ALe n0 T h T1 h1 := by subst he; exact ALe.wk hs
theorem wk1 {c d : AV} {cs ds : List AV} (h : d = c) (hs : WkL cs ds) : WkL (c :: cs) (d :: ds) := ⟨by subst h; exact Wk.refl _, hs⟩
theorem wka {c : AV} {cs ds : List AV} (hs : WkL cs ds) : WkL (c :: cs) (.any :: ds) := ⟨Wk.any _, hs⟩
theorem wkw {c d : AV} {cs ds : List AV} (h : Wk c d) (hs : WkL cs ds) : WkL (c :: cs) (d :: ds) := ⟨h, hs⟩
theorem wk0 : WkL [] [] := trivial
theorem ivx {a b : Int} (h : a = b) : iv a = iv b := by rw [h]
theorem hga {l : AH} {n k : Nat} {e : Ent} (hn : h.length = n) (hk : l[k]? = some e) : (h ++ l)[n + k]? = some e := by subst hn; rw [List.getElem?_append_right (by omega), Nat.add_sub_cancel_left, hk]
theorem ltw {n m : Nat} (h : n ≤ m) {l : AH} (hl : ∀ e ∈ l, e.lt n = true) : ∀ e ∈ l, e.lt m = true := fun e he => Ent.lt_mono h (hl e he)
end code
section run
variable {Kp : AV → List AV → AH → Prop} {K : List AV → AH → Prop} {rest : List AOper} {T T' : List AV} {h h' h0 ents ents' : AH} {d : Option Nat} {op : AOp} {c : AV}
/-- a slice is looked at: is it nil? -/
theorem s_eqn {neg : Bool} {x : Operand} {n st : Nat} {full : Bool} {cs : List AV} {T1 : Bool → List AV} (hx : aEval T x = .sl n st full cs) (hp : ∀ b, aPut T d (bv b) = T1 b) (hk : ∀ b, (0 < n → b = neg) → arun P Kp rest (T1 b) h K) : arun P Kp (⟨d, none, .eqn neg x⟩ :: rest) T h K := by
  refine ⟨fun _ => ?_, fun h => by cases h⟩
  simp only [astep, hx]
  intro b hb
  rw [hp]
  exact hk b hb
/-- a call of what a slot holds -/
theorem s_callT {f : FuncId} {x : Operand} {xs : List Operand} {as1 : List AV} (hf : aEval T x = .v (.func (.func f) #[] #[])) (hx : xs.map (aEval T) = as1) (hc : ACalls P f as1 h fun r h' => h' = h ∧ r = .ret c) (hp : aPut T d c = T') (hk : arun P Kp rest T' h K) : arun P Kp (⟨d, none, .call x xs⟩ :: rest) T h K := by
  subst hp hx
  refine ⟨fun _ => ?_, fun h => by cases h⟩
  simp only [astep, hf, aCall]
  refine ⟨trivial, trivial, hc.mono ?_⟩
  rintro r h' ⟨rfl, rfl⟩
  exact hk
theorem s_callC {f : FuncId} {x : Operand} {xs : List Operand} {as1 caps : List AV} (hf : aEval T x = .clo (.func f) caps) (hx : xs.map (aEval T) = as1) (hc : ACalls P f (as1 ++ caps) h fun r h' => h' = h ∧ r = .ret c) (hp : aPut T d c = T') (hk : arun P Kp rest T' h K) : arun P Kp (⟨d, none, .call x xs⟩ :: rest) T h K := by
  subst hp hx
  refine ⟨fun _ => ?_, fun h => by cases h⟩
  simp only [astep, hf, aCall]
  refine hc.mono ?_
  rintro r h' ⟨rfl, rfl⟩
  exact hk
/-- a call that turns the heap in a way that is known -/
theorem s_callh {f : FuncId} {xs : List Operand} {as1 : List AV} (hx : xs.map (aEval T) = as1) (hc : ACalls P f as1 h fun r h'' => r = .ret c ∧ h'' = h') (hp : aPut T d c = T') (hk : arun P Kp rest T' h' K) : arun P Kp (⟨d, none, .call (.func f) xs⟩ :: rest) T h K := by
  subst hp
  refine s_call hx hc ?_
  rintro r h' ⟨rfl, rfl⟩
  exact hk
/-- a call that makes one entry and returns it -/
theorem s_calla {f : FuncId} {xs : List Operand} {as1 cells : List AV} {ty st id m : Nat} {H : Nat → AH} {T1 : Nat → List AV} (hx : xs.map (aEval T) = as1) (hc : ACalls P f as1 h fun r h'' => ∃ v, r = .ret (.own h.length v m) ∧ h'' = h ++ [.mk v ty st cells]) (hl : h.length = id) (hh : ∀ v, h ++ [.mk v ty st cells] = H v) (hp : ∀ v, aPut T d (.own id v m) = T1 v) (hk : ∀ v, arun P Kp rest (T1 v) (H v) K) : arun P Kp (⟨d, none, .call (.func f) xs⟩ :: rest) T h K := by
  subst hl
  refine s_call hx hc ?_
  rintro r h' ⟨v, rfl, rfl⟩
  have := hk v
  rw [← hp, ← hh] at this
  exact this
/-- a call that turns two entries -/
theorem s_call2 {f : FuncId} {xs : List Operand} {as1 : List AV} {e e2 : Ent} {id id2 : Nat} {h1 : AH} (hx : xs.map (aEval T) = as1) (hc : ACalls P f as1 h fun r h'' => r = .ret c ∧ h'' = (h.set id e).set id2 e2) (hh : h.set id e = h1) (hh2 : h1.set id2 e2 = h') (hp : aPut T d c = T') (hk : arun P Kp rest T' h' K) : arun P Kp (⟨d, none, .call (.func f) xs⟩ :: rest) T h K := by
  subst hp hh2 hh
  refine s_call hx hc ?_
  rintro r h' ⟨rfl, rfl⟩
  exact hk
/-- a call that turns one entry -/
theorem s_calls {f : FuncId} {xs : List Operand} {as1 : List AV} {e : Ent} {id : Nat} (hx : xs.map (aEval T) = as1) (hc : ACalls P f as1 h fun r h'' => r = .ret c ∧ h'' = h.set id e) (hh : h.set id e = h') (hp : aPut T d c = T') (hk : arun P Kp rest T' h' K) : arun P Kp (⟨d, none, .call (.func f) xs⟩ :: rest) T h K := by
  subst hp hh
  refine s_call hx hc ?_
  rintro r h' ⟨rfl, rfl⟩
  exact hk
theorem k_calls {m : Bool} {q : List Bool} {rs : List Nat} {f : FuncId} {xs : List Operand} {as1 : List AV} {e : Ent} {id : Nat} (hx : xs.map (aEval T) = as1) (hc : ACalls P f as1 h fun r h'' => r = .ret c ∧ h'' = h.set id e) (hh : h.set id e = h') (hr : ∀ id ∈ (bif m then rs else []), h'[id]? = h[id]?) (hp : aPut T d c = T') (hk : arunK P rs q rest T' h' K) : arunK P rs (m :: q) (⟨d, none, .call (.func f) xs⟩ :: rest) T h K := by
  subst hh
  exact k_call hx hc hr hp hk
theorem s_callCh {f : FuncId} {x : Operand} {xs : List Operand} {as1 caps : List AV} (hf : aEval T x = .clo (.func f) caps) (hx : xs.map (aEval T) = as1) (hc : ACalls P f (as1 ++ caps) h fun r h'' => r = .ret c ∧ h'' = h') (hp : aPut T d c = T') (hk : arun P Kp rest T' h' K) : arun P Kp (⟨d, none, .call x xs⟩ :: rest) T h K := by
  subst hp hx
  refine ⟨fun _ => ?_, fun h => by cases h⟩
  simp only [astep, hf, aCall]
  refine hc.mono ?_
  rintro r h' ⟨rfl, rfl⟩
  exact hk
end run
section more
variable {Q : AX → List AV → AH → Prop} {T : List AV} {h : AH} {a : AC}
theorem aw_heap {c : AC} {h1 : AH} (he : h1 = h) (hw : aw P n0 c Q T h1) : aw P n0 c Q T h := by subst he; exact hw
theorem w_loopH {ι : Type} (f : ι → List (Nat × AV)) (H : ι → AH) (I : ι → Prop) (m : ι → Nat) (i0 : ι) (hI : I i0) (hl : ALe n0 T h (setsT T (f i0)) (H i0))
    (round : ∀ i, I i → aw P n0 a (AX.thn (LoopTo n0 (fun i => (setsT T (f i), H i)) I m i) Q) (setsT T (f i)) (H i)) : aw P n0 (.loop a) Q T h :=
  aw_loop (fun i => (setsT T (f i), H i)) I m i0 hI hl round
/-- an entry of the caller's -/
theorem hx_at {h E : AH} {id : Nat} {e : Ent} (hid : id < h.length) : (h.set id e ++ E)[id]? = some e := by
  rw [List.getElem?_append_left (by simpa using hid), List.getElem?_set_self hid]
theorem hx_set {h E : AH} {id : Nat} {e e' : Ent} (hid : id < h.length) : (h.set id e ++ E).set id e' = h.set id e' ++ E := by
  rw [List.set_append_left _ _ (by simpa using hid), List.set_set]
theorem hx_self {h : AH} {id : Nat} {e : Ent} (he : h[id]? = some e) : h.set id e = h := by
  apply List.ext_getElem?
  intro j
  by_cases hj : j = id
  · subst hj
    have : j < h.length := (List.getElem?_eq_some_iff.1 he).1
    rw [List.getElem?_set_self this, he]
  · rw [List.getElem?_set_ne (Ne.symm hj)]
theorem hx_len {h : AH} {id n : Nat} {e : Ent} (hn : h.length = n) : (h.set id e).length = n := by simpa using hn
theorem hx_lt {h : AH} {id n : Nat} {e : Ent} (hlt : ∀ x ∈ h, x.lt n = true) (he : e.lt n = true) : ∀ x ∈ h.set id e, x.lt n = true := by
  intro x hx
  rcases List.mem_or_eq_of_mem_set hx with h1 | rfl
  · exact hlt x h1
  · exact he
/-- rows of one's own are from now on read alone -/
theorem ALe.iceR {T T' : List AV} {h h' : AH} {id ver ty s d n : Nat} {cells cs : List AV} (hi : h[id]? = some (.mk ver ty s cells)) (hd : T[d]? = some (.own id ver n)) (hc : cells.take (n * s) = cs) (hl : n * s ≤ cells.length) (hp : aPut T (some d) (.sl n s false cs) = T') (hh : h.set id .gone = h') : ALe n0 T h T' h' := by
  subst hp hh hc
  exact ALe.ice hi hd hl
theorem ALe.iceCellR {T : List AV} {h h1 h2 : AH} {id j ver ty s n k v' t' s' : Nat} {cells cs cs' ds : List AV} (hi : h[id]? = some (.mk ver ty s cells)) (hj : h[j]? = some (.mk v' t' s' cs)) (hne : j ≠ id) (hk : cs[k]? = some (.own id ver n)) (hc : cells.take (n * s) = ds) (hl : n * s ≤ cells.length) (hp : aPut cs (some k) (.sl n s false ds) = cs') (e1 : h.set id .gone = h1) (e2 : h1.set j (.mk v' t' s' cs') = h2) : ALe n0 T h T h2 := by
  subst e2 e1 hp hc
  exact ALe.iceCell hi hj hne hk hl
theorem ALe.iceCellN {T : List AV} {h h1 h2 : AH} {id j ver ty s n n' k v' t' s' : Nat} {cells cs cs' ds : List AV} (hi : h[id]? = some (.mk ver ty s cells)) (hj : h[j]? = some (.mk v' t' s' cs)) (hne : j ≠ id) (hk : cs[k]? = some (.own id ver n)) (hc : cells.take (n * s) = ds) (hl : n * s ≤ cells.length) (hn : n = n') (hp : aPut cs (some k) (.sl n' s false ds) = cs') (e1 : h.set id .gone = h1) (e2 : h1.set j (.mk v' t' s' cs') = h2) : ALe n0 T h T h2 := by
  subst hn
  exact ALe.iceCellR hi hj hne hk hc hl hp e1 e2
theorem ALe.iceN {T T' : List AV} {h h' : AH} {id ver ty s d n n' : Nat} {cells cs : List AV} (hi : h[id]? = some (.mk ver ty s cells)) (hd : T[d]? = some (.own id ver n)) (hc : cells.take (n * s) = cs) (hl : n * s ≤ cells.length) (hn : n = n') (hp : aPut T (some d) (.sl n' s false cs) = T') (hh : h.set id .gone = h') : ALe n0 T h T' h' := by
  subst hn
  exact ALe.iceR hi hd hc hl hp hh
/-- a cell that holds a certain value is told otherwise -/
theorem SimH.tell1 {w : World} {g : Gh} {h : AH} (hs : SimH w g h) {id ver ty s k : Nat} {cells : List AV} {c c' : AV} (hi : h[id]? = some (.mk ver ty s cells)) (hk : cells[k]? = some c)
    (hc : ∀ b cap u, g.loc id ver = some (some ⟨b, 0, none⟩, cap) → w.cell? ⟨b, k, none⟩ = some u → Rep w g c u → Rep w g c' u) :
    SimH w g (h.set id (.mk ver ty s (cells.set k c'))) ∧ ∀ j, Ow g (h.set id (.mk ver ty s (cells.set k c'))) j → Ow g h j := by
  have hid : id < h.length := (List.getElem?_eq_some_iff.1 hi).1
  have hget : ∀ {i v t s' : Nat} {cs : List AV}, (h.set id (.mk ver ty s (cells.set k c')))[i]? = some (.mk v t s' cs) → ∃ cs', h[i]? = some (.mk v t s' cs') ∧ (i ≠ id → cs' = cs) ∧ (i = id → v = ver ∧ cs' = cells ∧ cs = cells.set k c') := by
    intro i v t s' cs he
    by_cases hii : i = id
    · subst hii
      rw [List.getElem?_set_self hid] at he
      cases he
      exact ⟨cells, hi, fun h => absurd rfl h, fun _ => ⟨rfl, rfl, rfl⟩⟩
    · rw [List.getElem?_set_ne (Ne.symm hii)] at he
      exact ⟨cs, he, fun _ => rfl, fun h => absurd h hii⟩
  have how : ∀ i j, OwAt g (h.set id (.mk ver ty s (cells.set k c'))) i j → OwAt g h i j := by
    rintro i j ⟨v, t, s', cs, b, cap, e1, e2, e3, e4⟩
    obtain ⟨cs', f1, _⟩ := hget e1
    exact ⟨v, t, s', cs', b, cap, f1, e2, e3, e4⟩
  refine ⟨⟨?_, fun i j k' h1 h2 => hs.inj i j k' (how i k' h1) (how j k' h2), hs.lt, ?_, ?_, ⟨hs.glob.w, hs.glob.d⟩⟩, fun j ⟨i, hj⟩ => ⟨i, how i j hj⟩⟩
  · intro i v t s' cs he
    obtain ⟨cs', f1, f2, f3⟩ := hget he
    obtain ⟨A, cap, e1, e2, e3⟩ := hs.ent _ _ _ _ _ f1
    refine ⟨A, cap, e1, e2, ?_⟩
    by_cases hii : i = id
    · obtain ⟨rfl, rfl, rfl⟩ := f3 hii
      rcases e3 with ⟨h0, h1⟩ | ⟨b, arr, rfl, x1, x2, x3, x4, x5, x6⟩
      · rw [h0] at hk; simp at hk
      · refine .inr ⟨b, arr, rfl, x1, x2, x3, x4, by simpa using x5, ?_⟩
        obtain ⟨u, hu, hr⟩ := x6.get hk
        have hcell : w.cell? ⟨b, k, none⟩ = some u := by
          rw [cell_of_row w b k arr t (0, 0) x3]
          rw [List.getElem?_take] at hu
          split at hu
          · simpa using hu
          · cases hu
        subst hii
        have := x6.set (k := k) (hc b cap u e1 hcell hr)
        have hself : (arr.toList.take cs'.length).set k u = arr.toList.take cs'.length := by
          apply List.ext_getElem?
          intro j
          by_cases hj : j = k
          · subst hj
            have : j < (arr.toList.take cs'.length).length := (List.getElem?_eq_some_iff.1 hu).1
            rw [List.getElem?_set_self this, hu]
          · rw [List.getElem?_set_ne (Ne.symm hj)]
        rw [hself] at this
        simpa using this
    · rw [← f2 hii]; exact e3
  · intro i v l hl
    have := hs.fresh i v l hl
    refine ⟨by simpa using this.1, fun v' t s' cs he => ?_⟩
    obtain ⟨cs', f1, _⟩ := hget he
    exact this.2 _ _ _ _ f1
  · intro i v l hl he
    by_cases hii : i = id
    · subst hii; rw [List.getElem?_set_self hid] at he; cases he
    · rw [List.getElem?_set_ne (Ne.symm hii)] at he; exact hs.free _ _ _ hl he
/-- two entries of the caller's -/
theorem hx2_at1 {h E : AH} {i j : Nat} {e f : Ent} (hne : i ≠ j) (hi : i < h.length) : ((h.set i e).set j f ++ E)[i]? = some e := by
  rw [List.getElem?_append_left (by simpa using hi), List.getElem?_set_ne (Ne.symm hne), List.getElem?_set_self hi]
theorem hx2_at2 {h E : AH} {i j : Nat} {e f : Ent} (hj : j < h.length) : ((h.set i e).set j f ++ E)[j]? = some f := by
  rw [List.getElem?_append_left (by simpa using hj), List.getElem?_set_self (by simpa using hj)]
theorem hx2_set1 {h E : AH} {i j : Nat} {e f e' : Ent} (hne : i ≠ j) (hi : i < h.length) : ((h.set i e).set j f ++ E).set i e' = (h.set i e').set j f ++ E := by
  rw [List.set_append_left _ _ (by simpa using hi), List.set_comm _ _ (Ne.symm hne), List.set_set]
theorem hx2_set2 {h E : AH} {i j : Nat} {e f f' : Ent} (hj : j < h.length) : ((h.set i e).set j f ++ E).set j f' = (h.set i e).set j f' ++ E := by
  rw [List.set_append_left _ _ (by simpa using hj), List.set_set]
theorem hx2_self {h : AH} {i j : Nat} {e f : Ent} (he : h[i]? = some e) (hf : h[j]? = some f) : (h.set i e).set j f = h := by
  rw [hx_self he, hx_self hf]
theorem hx2_len {h : AH} {i j n : Nat} {e f : Ent} (hn : h.length = n) : ((h.set i e).set j f).length = n := by simpa using hn
theorem hx2_lt {h : AH} {i j n : Nat} {e f : Ent} (hlt : ∀ x ∈ h, x.lt n = true) (he : e.lt n = true) (hf : f.lt n = true) : ∀ x ∈ (h.set i e).set j f, x.lt n = true := hx_lt (hx_lt hlt he) hf
theorem hx_app {h E : AH} {i : Nat} {e : Ent} (he : h[i]? = some e) : (h ++ E)[i]? = some e := by
  rw [List.getElem?_append_left (List.getElem?_eq_some_iff.1 he).1]; exact he
/-- what a pointer leads to is from now on read alone -/
theorem ALe.icePtr {T T' : List AV} {h h' : AH} {id ver ty s d : Nat} {cells : List AV} (hi : h[id]? = some (.mk ver ty s cells)) (hd : T[d]? = some (.ptr id ver 0)) (hne : cells ≠ []) (hp : aPut T (some d) (.rp cells) = T') (hh : h.set id .gone = h') : ALe n0 T h T' h' := fun w0 S0 g0 a w g st => by
  subst hp hh
  obtain ⟨h1, h2, _⟩ := st.sim.ice hi
  have htm := RepL.mono (g.le_ice h id) (fun _ _ => rfl) _ _ st.tmps
  obtain ⟨u, hu, hr⟩ := st.tmps.get hd
  simp only [Rep] at hr
  obtain ⟨b, cap, e1, rfl⟩ := hr
  obtain ⟨A, cap', f1, _, f3⟩ := st.sim.ent _ _ _ _ _ hi
  rw [e1] at f1
  simp only [Option.some.injEq, Prod.mk.injEq] at f1
  obtain ⟨rfl, rfl⟩ := f1
  rcases f3 with ⟨h0, _⟩ | ⟨b', arr, e, hc0, hdd, hb, hsz, hle, hrl⟩
  · exact absurd h0 hne
  · cases e
    have hset := htm.set (k := d) (c := .rp cells) (u := .pointer (some ⟨b, 0, none⟩)) (by
      simp only [Rep]
      refine ⟨b, 0, rfl, .inr ⟨ver, ty, s, cells, _, cap, hi, e1, hc0, rfl⟩, RepC.of_row hb _ _ ?_⟩
      have := RepL.mono (g.le_ice h id) (fun _ _ => rfl) _ _ hrl
      simpa using this)
    have hself : a.tmps.toList.set d (.pointer (some ⟨b, 0, none⟩)) = a.tmps.toList := by
      apply List.ext_getElem?
      intro j
      by_cases hj : j = d
      · subst hj
        have : j < a.tmps.toList.length := (List.getElem?_eq_some_iff.1 hu).1
        rw [List.getElem?_set_self this, hu]
      · rw [List.getElem?_set_ne (Ne.symm hj)]
    rw [hself] at hset
    exact ⟨g.ice h id, hset, st.defers, h1, st.fr, st.le.trans (g.le_ice h id), st.bd, fun k hk => st.ow k (h2 k hk)⟩
/-- an empty slice in a cell is one's own -/
theorem ALe.own0Cell {T : List AV} {h h1 : AH} {j v' t' s' k st st' ty id : Nat} {cs ds cs' : List AV} (hj : h[j]? = some (.mk v' t' s' cs)) (hk : cs[k]? = some (.sl 0 st true ds)) (hl : h.length = id) (hp : aPut cs (some k) (.own id 0 0) = cs') (he : (h ++ [Ent.mk 0 ty st' []] : AH).set j (Ent.mk v' t' s' cs') = h1) : ALe n0 T h T h1 := fun w0 S0 g0 a w g s => by
  subst hl he hp
  obtain ⟨A1, cap1, l1, l2, l3⟩ := s.sim.ent _ _ _ _ _ hj
  have hjl : j < h.length := (List.getElem?_eq_some_iff.1 hj).1
  rcases l3 with ⟨h0, _⟩ | ⟨b, arr, rfl, x1, x2, x3, x4, x5, x6⟩
  · rw [h0] at hk; simp at hk
  obtain ⟨u, hu, hr⟩ := x6.get hk
  have hcell : w.cell? ⟨b, k, none⟩ = some u := by
    rw [cell_of_row w b k arr t' (0, 0) x3]
    rw [List.getElem?_take] at hu
    split at hu
    · simpa using hu
    · cases hu
  simp only [Rep] at hr
  obtain ⟨_, A, cap, rfl, _, _, hc, _, _⟩ := hr
  obtain rfl : cap = 0 := (hc trivial).symm
  obtain ⟨q1, q2, q3⟩ := s.sim.add0 (w' := w) A ty st' (fun _ _ => rfl) (Nat.le_refl _)
  have htm := RepL.mono q2 (fun _ _ => rfl) _ _ s.tmps
  obtain ⟨r1, r2⟩ := q1.tell1 (id := j) (c' := .own h.length 0 0) (by rw [List.getElem?_append_left hjl]; exact hj) hk (by
    intro b' cap' u' e1 e2 _
    have := q2.loc _ _ _ l1
    rw [this] at e1
    simp only [Option.some.injEq, Prod.mk.injEq, Addr.mk.injEq] at e1
    obtain ⟨⟨rfl, _⟩, _⟩ := e1
    rw [hcell] at e2
    cases e2
    exact rep_own_new (Nat.le_refl _) (by simp [maxLen]))
  exact ⟨_, htm, s.defers, r1, s.fr, s.le.trans q2, s.bd, fun i hi => (q3 i (r2 i hi)).elim (s.ow i) (fun h => .inr (Nat.le_trans s.fr.size h))⟩
/-- an empty slice is one's own -/
theorem ALe.own0 {T : List AV} {d st st' ty : Nat} {cs : List AV} (hd : T[d]? = some (.sl 0 st true cs)) : ALe n0 T h (T.set d (.own h.length 0 0)) (h ++ [.mk 0 ty st' []]) := fun w0 S0 g0 a w g s => by
  obtain ⟨u, hu, hr⟩ := s.tmps.get hd
  simp only [Rep] at hr
  obtain ⟨_, A, cap, rfl, _, _, hc, _, _⟩ := hr
  obtain rfl : cap = 0 := (hc trivial).symm
  obtain ⟨h1, h2, h3⟩ := s.sim.add0 (w' := w) A ty st' (fun _ _ => rfl) (Nat.le_refl _)
  have htm := RepL.mono h2 (fun _ _ => rfl) _ _ s.tmps
  have hset := htm.set (k := d) (c := .own h.length 0 0) (u := .slice A 0 0) (rep_own_new (Nat.le_refl _) (by simp [maxLen]))
  have hself : a.tmps.toList.set d (.slice A 0 0) = a.tmps.toList := by
    apply List.ext_getElem?
    intro j
    by_cases hj : j = d
    · subst hj
      have : j < a.tmps.toList.length := (List.getElem?_eq_some_iff.1 hu).1
      rw [List.getElem?_set_self this, hu]
    · rw [List.getElem?_set_ne (Ne.symm hj)]
  rw [hself] at hset
  exact ⟨_, hset, s.defers, h1, s.fr, s.le.trans h2, s.bd, fun k hk => (h3 k hk).elim (s.ow k) (fun h => .inr (Nat.le_trans s.fr.size h))⟩
theorem ALe.own0' {T T' : List AV} {h h' : AH} {d st st' ty id : Nat} {cs : List AV} (hd : T[d]? = some (.sl 0 st true cs)) (hl : h.length = id) (hp : aPut T (some d) (.own id 0 0) = T') (hh : h ++ [.mk 0 ty st' []] = h') : ALe n0 T h T' h' := by
  subst hl hp hh
  exact ALe.own0 hd
end more

end
section
variable {P : Program} {n0 : Nat}
mutual
/-- how long slices are -/
def AV.bd : AV → Prop
  | .sl n _ _ cs => n ≤ 9223372036854775807 ∧ AV.bdL cs
  | .own _ _ n => n ≤ 9223372036854775807
  | .rp cs => AV.bdL cs
  | .agg cs => AV.bdL cs
  | .tup cs => AV.bdL cs
  | .clo _ cs => AV.bdL cs
  | _ => True
def AV.bdL : List AV → Prop
  | [] => True
  | c :: cs => AV.bd c ∧ AV.bdL cs
end
mutual
theorem Rep.bd {w : World} {g : Gh} : ∀ (c : AV) (y : Value), Rep w g c y → c.bd
  | .v x, y, _ => by simp only [AV.bd]
  | .any, y, _ => by simp only [AV.bd]
  | .sl n st full cells, y, h => by
    simp only [Rep] at h
    obtain ⟨_, A, cap, h1, h2, h3, h4, h5, h6⟩ := h
    simp only [AV.bd]
    refine ⟨by simp only [maxLen] at h3; omega, ?_⟩
    by_cases hc : cells = []
    · subst hc; simp only [AV.bdL]
    · obtain ⟨b, off, _, _, h7⟩ := h6 hc
      exact RepC.bd cells b off h7
  | .own id ver n, y, h => by
    simp only [Rep] at h
    obtain ⟨A, cap, h1, h2, h3, _⟩ := h
    simp only [AV.bd]
    simp only [maxLen] at h3
    omega
  | .ptr id ver off, y, h => by simp only [AV.bd]
  | .rp cells, y, h => by
    simp only [Rep] at h
    obtain ⟨b, off, e, hd, hc⟩ := h
    simp only [AV.bd]
    exact RepC.bd cells b off hc
  | .agg cells, y, h => by
    simp only [Rep] at h
    obtain ⟨vs, e, hc⟩ := h
    simp only [AV.bd]
    exact RepL.bd cells _ hc
  | .tup cells, y, h => by
    simp only [Rep] at h
    obtain ⟨vs, e, hc⟩ := h
    simp only [AV.bd]
    exact RepL.bd cells _ hc
  | .clo fn cells, y, h => by
    simp only [Rep] at h
    obtain ⟨vs, e, hc⟩ := h
    simp only [AV.bd]
    exact RepL.bd cells _ hc
theorem RepC.bd {w : World} {g : Gh} : ∀ (cs : List AV) (b off : Nat), RepC w g cs b off → AV.bdL cs
  | [], _, _, _ => by simp only [AV.bdL]
  | c :: cs, b, off, h => by
    simp only [RepC] at h
    obtain ⟨⟨u, h1, h2⟩, h3⟩ := h
    simp only [AV.bdL]
    exact ⟨Rep.bd c u h2, RepC.bd cs b (off + 1) h3⟩
theorem RepL.bd {w : World} {g : Gh} : ∀ (cs : List AV) (vs : List Value), RepL w g cs vs → AV.bdL cs
  | [], _, _ => by simp only [AV.bdL]
  | c :: cs, vs, h => by
    simp only [RepL] at h
    obtain ⟨u, us, e, h1, h2⟩ := h
    simp only [AV.bdL]
    exact ⟨Rep.bd c u h1, RepL.bd cs us h2⟩
end
/-- into a function that leaves the heap as it was -/
theorem ACalls.into {f : FuncId} {af : AF} (hc : compF P f = some af) {args T0 : List AV} {h : AH} {R : AE → Prop} (hT : args ++ List.replicate (af.ntmps - args.length) .any = T0)
    (hw : ∀ n, h.length = n → (∀ e ∈ h, e.lt n = true) → AV.ltL n args = true → AV.bdL args → aw P n af.code (retA af.res fun x h' => ∃ z, h' = h ++ z ∧ x.lt n = true ∧ R x) T0 (h ++ [])) : ACalls P f args h fun x h' => h' = h ∧ R x := by
  subst hT
  exact ⟨enters_of_compF hc, fun w g vs hs ha => (ACalls.enter (R := R) hc fun n h1 h2 h3 => hw n h1 h2 h3 (RepL.bd _ _ ha)).2 w g vs hs ha⟩
/-- into a function that turns entries of the heap -/
theorem ACalls.intoG {f : FuncId} {af : AF} (hc : compF P f = some af) {args T0 : List AV} {h : AH} {R : AE → AH → Prop} (hT : args ++ List.replicate (af.ntmps - args.length) .any = T0)
    (hw : ∀ n, h.length = n → (∀ e ∈ h, e.lt n = true) → AV.ltL n args = true → AV.bdL args → aw P n af.code (retA af.res fun x h' => ∃ y z, h' = y ++ z ∧ y.length = n ∧ (∀ e ∈ y, e.lt n = true) ∧ x.lt n = true ∧ R x y) T0 (h ++ [])) : ACalls P f args h R := by
  subst hT
  exact ⟨enters_of_compF hc, fun w g vs hs ha => (ACalls.enterG (R := R) hc fun n h1 h2 h3 => hw n h1 h2 h3 (RepL.bd _ _ ha)).2 w g vs hs ha⟩
/-- into a function that makes entries -/
theorem ACalls.intoN {f : FuncId} {af : AF} (hc : compF P f = some af) {args T0 : List AV} {h : AH} {R : AE → AH → Prop} (hT : args ++ List.replicate (af.ntmps - args.length) .any = T0)
    (hw : ∀ n, h.length = n → (∀ e ∈ h, e.lt n = true) → AV.ltL n args = true → AV.bdL args → aw P n af.code (retA af.res R) T0 (h ++ [])) : ACalls P f args h R := by
  subst hT
  refine ⟨enters_of_compF hc, fun w g vs hs ha => (ACalls.of_aw (R := R) hc ?_).2 w g vs hs ha⟩
  have := hw h.length rfl hs.ltE (RepL.lt (fun i v l hl => (hs.fresh i v l hl).1) _ _ ha) (RepL.bd _ _ ha)
  rwa [List.append_nil] at this
/-- a result is told with less -/
theorem ACalls.weak {f : FuncId} {args : List AV} {h : AH} {res : AV} (hc : ACalls P f args h fun x h' => h' = h ∧ ∃ c, x = .ret c ∧ Wk c res) : ACalls P f args h fun x h' => h' = h ∧ x = .ret res := by
  refine ⟨hc.1, fun w g vs hs ha => (hc.2 w g vs hs ha).mono ?_⟩
  rintro e w' ⟨x, h', g', h1, h2, h3, h4, h5, rfl, c, rfl, hw⟩
  refine ⟨.ret res, _, g', ?_, h2, h3, h4, h5, rfl, rfl⟩
  cases e <;> simp only [EndR] at h1 ⊢
  exact hw _ _ _ h1
theorem Wk.of_eq {c d : AV} (h : c = d) : Wk c d := by subst h; exact Wk.refl _
theorem rtw {n : Nat} {h E : AH} {c res : AV} (hl : c.lt n = true) (he : Wk c res) : ∃ z, h ++ E = h ++ z ∧ (AE.ret c).lt n = true ∧ ∃ d, AE.ret c = .ret d ∧ Wk d res := ⟨E, rfl, hl, c, rfl, he⟩
theorem rt {n : Nat} {h E : AH} {c res : AV} (hl : c.lt n = true) (he : c = res) : ∃ z, h ++ E = h ++ z ∧ (AE.ret c).lt n = true ∧ AE.ret c = .ret res := ⟨E, rfl, hl, by rw [he]⟩
theorem rtp {n : Nat} {h E : AH} {c : AV} {R : AV → Prop} (hl : c.lt n = true) (he : R c) : ∃ z, h ++ E = h ++ z ∧ (AE.ret c).lt n = true ∧ ∃ r, AE.ret c = .ret r ∧ R r := ⟨E, rfl, hl, c, rfl, he⟩

section
variable {T : List AV} {h : AH} {x y i : Operand} {c : AV}
theorem cvl {cs : List AV} (hx : aEval T x = c) (hc : cellsV c = some cs) : cellsV (aEval T x) = some cs := by rw [hx]; exact hc
theorem oi {τ : Operand → AV} {d : Int} {k : IntKind} {j : Int} (hx : τ x = .v (.int k j)) : optInt τ d (some x) = some j := by simp only [optInt, hx]
theorem on_ {τ : Operand → AV} {d : Int} : optInt τ d none = some d := rfl
theorem v_notB {b : Bool} (hx : aEval T x = bv b) : aval h (aEval T) (.un .not x) = some (bv (!b)) := by simp only [aval, hx]
theorem v_eqsT {b : Bool} {ks : List LK} {cs ds : List AV} (hx : aEval T x = .agg cs) (hy : aEval T y = .agg ds) (he : eqCells ks cs ds = some b) : aval h (aEval T) (.eqs false ks x y) = some (bv b) := v_eqs hx hy he
theorem v_eqsN {p : Prop} [Decidable p] {ks : List LK} {cs ds : List AV} (hx : aEval T x = .agg cs) (hy : aEval T y = .agg ds) (he : eqCells ks cs ds = some (decide p)) : aval h (aEval T) (.eqs true ks x y) = some (bv (decide (¬ p))) := by
  rw [v_eqs hx hy he]
  by_cases hp : p <;> simp [hp]
theorem v_eqbT {a b : Bool} (hx : aEval T x = bv a) (hy : aEval T y = bv b) : aval h (aEval T) (.eqb false x y) = some (bv (decide (a = b))) := by
  rw [v_eqb hx hy]
  cases a <;> cases b <;> rfl
theorem v_eqbN {a b : Bool} (hx : aEval T x = bv a) (hy : aEval T y = bv b) : aval h (aEval T) (.eqb true x y) = some (bv (decide (a ≠ b))) := by
  rw [v_eqb hx hy]
  cases a <;> cases b <;> rfl
theorem sc_sl {m st sz : Nat} {full : Bool} {cs : List AV} (hx : aEval T x = .sl m st full cs) (hl : cs.length = m * sz) : srcCells h sz (aEval T x) = some (m, cs) := by
  simp only [srcCells, hx, rowsAt, if_pos hl]
theorem sc_own {id v m ty st sz : Nat} {cells cs : List AV} (hx : aEval T x = .own id v m) (he : h[id]? = some (.mk v ty st cells)) (hs : st = sz) (hc : cells.take (m * sz) = cs) (hl : m * sz ≤ cells.length) : srcCells h sz (aEval T x) = some (m, cs) := by
  subst hc hs
  have : (cells.take (m * st)).length = m * st := by rw [List.length_take]; omega
  simp only [srcCells, hx, rowsAt, he, if_pos (And.intro trivial hl), if_pos this]
theorem sc_str {s : ByteArray} (hx : aEval T x = sv s) : srcCells h 1 (aEval T x) = some (s.size, s.data.toList.map fun b => .v (.int .u8 b.toNat)) := by simp only [srcCells, hx, if_true]
/-- rows of data -/
def rows {α : Type} (f : α → List AV) (l : List α) : List AV := l.flatMap f
theorem rows_len {α : Type} {f : α → List AV} {st : Nat} (hf : ∀ x, (f x).length = st) : ∀ l, (rows f l).length = l.length * st
  | [] => by simp [rows]
  | x :: l => by
    have := rows_len hf l
    simp only [rows] at this
    simp only [rows, List.flatMap_cons, List.length_append, hf, this, List.length_cons, Nat.add_mul, Nat.one_mul]
    omega
theorem rows_drop {α : Type} {f : α → List AV} {st : Nat} (hf : ∀ x, (f x).length = st) : ∀ (k : Nat) (l : List α), (rows f l).drop (k * st) = rows f (l.drop k)
  | 0, l => by simp
  | k + 1, [] => by simp [rows]
  | k + 1, x :: l => by
    have := rows_drop hf k l
    simp only [rows] at this
    simp only [rows, List.flatMap_cons, List.drop_succ_cons]
    rw [Nat.add_mul, Nat.one_mul, Nat.add_comm, ← List.drop_drop, ← hf x, List.drop_left, hf x]
    exact this
theorem rows_take {α : Type} {f : α → List AV} {st : Nat} (hf : ∀ x, (f x).length = st) : ∀ (k : Nat) (l : List α), (rows f l).take (k * st) = rows f (l.take k)
  | 0, l => by simp [rows]
  | k + 1, [] => by simp [rows]
  | k + 1, x :: l => by
    have := rows_take hf k l
    simp only [rows] at this
    simp only [rows, List.flatMap_cons, List.take_succ_cons]
    rw [Nat.add_mul, Nat.one_mul, List.take_append, hf x, ← this]
    rw [List.take_of_length_le (by rw [hf x]; omega), show k * st + st - st = k * st by omega]
theorem rows_at {α : Type} {f : α → List AV} {st : Nat} (hf : ∀ x, (f x).length = st) {l : List α} {k : Nat} (hk : k < l.length) : ((rows f l).drop (k * st)).take st = f l[k] := by
  rw [rows_drop hf, List.drop_eq_getElem_cons hk]
  simp only [rows, List.flatMap_cons]
  rw [← hf l[k], List.take_left]
theorem rows_app {α : Type} {f : α → List AV} (l m : List α) : rows f (l ++ m) = rows f l ++ rows f m := by simp [rows]
theorem rows_one {α : Type} {f : α → List AV} (x : α) : rows f [x] = f x := by simp [rows]
theorem rows_nil {α : Type} {f : α → List AV} : rows f [] = [] := rfl
theorem rows_lt {α : Type} {f : α → List AV} (hf : ∀ n x, AV.ltL n (f x) = true) {n : Nat} : ∀ l, AV.ltL n (rows f l) = true
  | [] => rfl
  | x :: l => by
    have := rows_lt hf (n := n) l
    simp only [rows] at this
    simp only [rows, List.flatMap_cons]
    have key : ∀ a b : List AV, AV.ltL n a = true → AV.ltL n b = true → AV.ltL n (a ++ b) = true := by
      intro a
      induction a with
      | nil => intro b _ hb; exact hb
      | cons c cs ih => intro b ha hb; simp only [AV.ltL, List.cons_append, Bool.and_eq_true] at ha ⊢; exact ⟨ha.1, ih b ha.2 hb⟩
    exact key _ _ (hf n x) this
theorem rows_leaf {α : Type} {f : α → List AV} (hf : ∀ x, (f x).all leaf = true) : ∀ l, (rows f l).all leaf = true
  | [] => rfl
  | x :: l => by
    have := rows_leaf hf l
    simp only [rows] at this
    simp only [rows, List.flatMap_cons, List.all_append, hf x, this, Bool.and_self]
theorem v_iaR {α : Type} {f : α → List AV} {st n k : Nat} {full : Bool} {l : List α} {j : Int} {kd : IntKind} {ds : List AV} (hx : aEval T x = .sl n st full (rows f l)) (hi : aEval T i = .v (.int kd j)) (hf : ∀ x, (f x).length = st) (hst : 0 < st) (hj : j = (k : Int)) (hk : k < l.length) (hn : n = l.length) (hd : f l[k] = ds) : aval h (aEval T) (.ia st x i) = some (.rp ds) := by
  subst hj hn hd
  exact v_ia hx hi hst (by omega) (by omega) (by rw [Int.toNat_natCast]; exact rows_at hf hk)
/-- cuts of rows -/
theorem v_lo {α : Type} {f : α → List AV} {st n k : Nat} {full : Bool} {l : List α} {j : Int} {kd : IntKind} {lo : Operand} (hx : aEval T x = .sl n st full (rows f l)) (hi : aEval T lo = .v (.int kd j)) (hf : ∀ x, (f x).length = st) (hj : j = (k : Int)) (hk : k ≤ l.length) (hn : n = l.length) :
    aval h (aEval T) (.slc st x (some lo) none none) = some (.sl (l.drop k).length st full (rows f (l.drop k))) := by
  subst hj hn
  rw [v_slc hx (oi hi) on_ (by omega) (by omega) (by omega)]
  simp only [Int.toNat_natCast, decide_true, Bool.and_true, rows_drop hf, List.length_drop]
  congr 2
  rw [List.take_of_length_le]
  rw [rows_len hf, List.length_drop]
  exact Nat.le_refl _
theorem v_hi {α : Type} {f : α → List AV} {st n k : Nat} {full : Bool} {l : List α} {j : Int} {kd : IntKind} {hi : Operand} (hx : aEval T x = .sl n st full (rows f l)) (hi' : aEval T hi = .v (.int kd j)) (hf : ∀ x, (f x).length = st) (hj : j = (k : Int)) (hk : k ≤ l.length) (hn : n = l.length) :
    aval h (aEval T) (.slc st x none (some hi) none) = some (.sl (l.take k).length st (full && decide (k = l.length)) (rows f (l.take k))) := by
  subst hj hn
  rw [v_slc hx on_ (oi hi') (by omega) (by omega) (by omega)]
  simp only [Int.toNat_natCast, Nat.zero_mul, Int.toNat_zero, List.drop_zero, Nat.sub_zero, rows_take hf, List.length_take, Nat.min_eq_left hk]
  have : decide ((k : Int) = (l.length : Int)) = decide (k = l.length) := by
    simp only [decide_eq_decide]; omega
  rw [this]
theorem v_lh {α : Type} {f : α → List AV} {st n k m : Nat} {full : Bool} {l : List α} {j u : Int} {kd kd' : IntKind} {lo hi : Operand} (hx : aEval T x = .sl n st full (rows f l)) (hj' : aEval T lo = .v (.int kd j)) (hi' : aEval T hi = .v (.int kd' u)) (hf : ∀ x, (f x).length = st) (hj : j = (k : Int)) (hu : u = (m : Int)) (hk : k ≤ m) (hm : m ≤ l.length) (hn : n = l.length) :
    aval h (aEval T) (.slc st x (some lo) (some hi) none) = some (.sl ((l.take m).drop k).length st (full && decide (m = l.length)) (rows f ((l.take m).drop k))) := by
  subst hj hn hu
  rw [v_slc hx (oi hj') (oi hi') (by omega) (by omega) (by omega)]
  simp only [Int.toNat_natCast, List.length_drop, List.length_take, Nat.min_eq_left hm]
  have : decide ((m : Int) = (l.length : Int)) = decide (m = l.length) := by
    simp only [decide_eq_decide]; omega
  rw [this, rows_drop hf, rows_take hf, ← List.drop_take]
theorem v_hiO {st id v n m : Nat} {j : Int} {kd : IntKind} {hi : Operand} (hx : aEval T x = .own id v n) (hi' : aEval T hi = .v (.int kd j)) (hj : j = (m : Int)) (hm : m ≤ n) : aval h (aEval T) (.slc st x none (some hi) none) = some (.own id v m) := by
  subst hj
  simp only [aval, hx, oi hi']
  rw [if_pos (by omega), Int.toNat_natCast]
theorem v_iaOR {α : Type} {f : α → List AV} {st n k id v ty : Nat} {l : List α} {j : Int} {kd : IntKind} (hx : aEval T x = .own id v n) (hi : aEval T i = .v (.int kd j)) (he : h[id]? = some (.mk v ty st (rows f l))) (hf : ∀ x, (f x).length = st) (hst : 0 < st) (hj : j = (k : Int)) (hk : k < l.length) (hn : n = l.length) : aval h (aEval T) (.ia st x i) = some (.ptr id v (k * st)) := by
  subst hj hn
  rw [v_iaO hx hi he hst (by omega) (by omega) (by rw [rows_len hf]; exact Nat.le_refl _), Int.toNat_natCast]
theorem v_ldOR {α : Type} {f : α → List AV} {sz k id v ty s : Nat} {l : List α} {cs : List AV} (hx : aEval T x = .ptr id v (k * sz)) (he : h[id]? = some (.mk v ty s (rows f l))) (hf : ∀ x, (f x).length = sz) (hk : k < l.length) (hc : f l[k] = cs) : aval h (aEval T) (.load true sz x) = some (.agg cs) :=
  v_loadpA hx he (by rw [rows_at hf hk, hc]) (by rw [← hc, hf])
theorem v_ldOR1 {α : Type} {f : α → List AV} {k id v ty s : Nat} {l : List α} (hx : aEval T x = .ptr id v (k * 1)) (he : h[id]? = some (.mk v ty s (rows f l))) (hf : ∀ x, (f x).length = 1) (hk : k < l.length) (hc : f l[k] = [c]) : aval h (aEval T) (.load false 1 x) = some c := by
  refine v_loadp hx he ?_
  have h1 := rows_at hf hk
  rw [hc] at h1
  have := congrArg (·[0]?) h1
  simpa [List.getElem?_drop] using this
theorem setCells_app (f1 : List AV) : ∀ (cs a b : List AV), cs.length = a.length → setCells (f1 ++ (a ++ b)) f1.length cs = f1 ++ (cs ++ b)
  | [], [], b, _ => rfl
  | [], _ :: _, _, h => by simp at h
  | _ :: _, [], _, h => by simp at h
  | c :: cs, x :: a, b, h => by
    simp only [setCells]
    have h1 : (f1 ++ (x :: a ++ b)).set f1.length c = (f1 ++ [c]) ++ (a ++ b) := by simp
    rw [h1]
    have h2 : f1.length + 1 = (f1 ++ [c]).length := by simp
    rw [h2, setCells_app (f1 ++ [c]) cs a b (by simpa using h)]
    simp
theorem rows_set {α : Type} {f : α → List AV} {st : Nat} (hf : ∀ x, (f x).length = st) {l : List α} {k : Nat} (hk : k < l.length) (x : α) : setCells (rows f l) (k * st) (f x) = rows f (l.set k x) := by
  have h1 : rows f l = rows f (l.take k) ++ (f l[k] ++ rows f (l.drop (k + 1))) := by
    have : l = l.take k ++ (l[k] :: l.drop (k + 1)) := by rw [← List.drop_eq_getElem_cons hk, List.take_append_drop]
    calc rows f l = rows f (l.take k ++ (l[k] :: l.drop (k + 1))) := by rw [← this]
      _ = _ := by rw [rows_app]; simp only [rows, List.flatMap_cons]
  have h2 : (rows f (l.take k)).length = k * st := by rw [rows_len hf, List.length_take, Nat.min_eq_left (by omega)]
  rw [h1, ← h2, setCells_app _ _ _ _ (by rw [hf, hf])]
  have h3 : l.set k x = l.take k ++ (x :: l.drop (k + 1)) := by
    rw [List.set_eq_take_append_cons_drop, if_pos hk]
  rw [h3, rows_app]
  simp [rows]
theorem e_stOR {α : Type} {f : α → List AV} {sz k id v ty s : Nat} {l : List α} {y : Operand} {z : α} {h' : AH} (hx : aEval T x = .ptr id v (k * sz)) (hc : cellsV (aEval T y) = some (f z)) (he : h[id]? = some (.mk v ty s (rows f l))) (hf : ∀ x, (f x).length = sz) (hlf : (f z).all leaf = true) (hk : k < l.length) (hh : h.set id (.mk v ty s (rows f (l.set k z))) = h') :
    aeff h (aEval T) (.store sz x y) = some (.v undef, h') :=
  e_store hx hc he (hf z) (by rw [rows_len hf]; have := Nat.mul_le_mul_right sz hk; rw [Nat.succ_mul] at this; exact this) hlf (rows_set hf hk z) hh
theorem byteAt_get {s : ByteArray} {k : Nat} (hk : k < s.size) : byteAt s k = s[k] := by
  unfold byteAt
  rw [List.getD_eq_getElem?_getD, List.getElem?_eq_getElem (by simpa using hk)]
  rfl
theorem bytes_empty {s : ByteArray} : s = ⟨#[]⟩ ↔ s.size = 0 := by
  constructor
  · rintro rfl; rfl
  · intro h
    apply ByteArray.ext
    exact Array.size_eq_zero_iff.1 h
/-- is a text empty? -/
theorem v_eqlE {s : ByteArray} (hx : aEval T x = sv s) : aval h (aEval T) (.bin .eql x (.const (.string ⟨#[]⟩))) = some (bv (decide (s.size = 0))) := by
  rw [v_eqlS hx lks]
  have : decide (s = (⟨#[]⟩ : ByteArray)) = decide (s.size = 0) := by simp only [decide_eq_decide]; exact bytes_empty
  rw [this]
abbrev u8R (b : UInt8) : List AV := [.v (.int .u8 (b.toNat : Int))]
theorem bytes_rows : ∀ L : List UInt8, bytesOf (rows u8R L) = some L
  | [] => rfl
  | b :: L => by
    have := bytes_rows L
    simp only [rows] at this
    simp only [rows, List.flatMap_cons, u8R, List.singleton_append, bytesOf, Int.toNat_natCast, UInt8.ofNat_toNat]
    rw [show List.flatMap (fun b => [AV.v (Value.int IntKind.u8 (b.toNat : Int))]) L = List.flatMap u8R L from rfl, this]
    rfl
theorem u8_map : ∀ L : List UInt8, (L.map fun b => AV.v (.int .u8 (b.toNat : Int))) = rows u8R L
  | [] => rfl
  | b :: L => by
    have := u8_map L
    simp only [rows] at this
    simp only [rows, List.map_cons, List.flatMap_cons, this]
    rfl
theorem sc_strR {s : ByteArray} (hx : aEval T x = sv s) : srcCells h 1 (aEval T x) = some (s.data.toList.length, rows u8R s.data.toList) := by
  rw [sc_str hx, u8_map]
  rfl
theorem v_b2sO {id v n ty : Nat} {M : List UInt8} (hx : aEval T x = .own id v n) (he : h[id]? = some (.mk v ty 1 (rows u8R M))) (hn : n = M.length) : aval h (aEval T) (.b2s x) = some (sv ⟨M.toArray⟩) := by
  subst hn
  have hl : (rows u8R M).length = M.length := by rw [rows_len (st := 1) (fun _ => rfl)]; omega
  have ht : (rows u8R M).take (M.length * 1) = rows u8R M := List.take_of_length_le (by omega)
  simp only [aval, hx, rowsAt, he]
  rw [if_pos (And.intro trivial (by omega))]
  simp only [ht, hl, if_true, bytes_rows, Option.map_some]
/-- results -/
theorem rr_t {t : Nat} (ht : T[t]? = some c) : aRes1 T h (.tmp t) = some c := ht
theorem rr_c {t id v o ty s sz : Nat} {agg : Bool} {cells : List AV} (ht : T[t]? = some (.ptr id v o)) (he : h[id]? = some (.mk v ty s cells)) (hl : loadAV agg sz (cells.drop o) = some c) : aRes1 T h (.cell t agg sz) = some c := by
  simp only [aRes1, ht, cellsAt, he, if_true, Option.bind_some, hl]
theorem ld0 {sz : Nat} {l : List AV} {o : Nat} (hc : l[o]? = some c) : loadAV false sz (l.drop o) = some c := by
  have : l.drop o = c :: l.drop (o + 1) := by
    obtain ⟨hlt, rfl⟩ := List.getElem?_eq_some_iff.1 hc
    exact List.drop_eq_getElem_cons hlt
  rw [this]; rfl
theorem ld1 {sz : Nat} {l cs : List AV} {o : Nat} (hc : (l.drop o).take sz = cs) (hl : cs.length = sz) : loadAV true sz (l.drop o) = some (.agg cs) := by
  subst hc
  rw [List.length_take] at hl
  simp only [loadAV]
  rw [if_pos (by omega)]
theorem rm0 : ([] : List AR).mapM (aRes1 T h) = some [] := rfl
theorem rm1 {r : AR} {rs : List AR} {cs : List AV} (h1 : aRes1 T h r = some c) (h2 : rs.mapM (aRes1 T h) = some cs) : (r :: rs).mapM (aRes1 T h) = some (c :: cs) := by
  simp only [List.mapM_cons, h1, h2]; rfl
theorem rs1 {r : AR} (h1 : aRes1 T h r = some c) : aRes [r] T h = some c := by simp only [aRes, rm1 h1 rm0]
theorem rsn {rs : List AR} {c1 c2 : AV} {cs : List AV} (hm : rs.mapM (aRes1 T h) = some (c1 :: c2 :: cs)) : aRes rs T h = some (.tup (c1 :: c2 :: cs)) := by simp only [aRes, hm]
theorem rs0 : aRes [] T h = some (.tup []) := rfl
end
section
variable {Kp : AV → List AV → AH → Prop} {K : List AV → AH → Prop} {Q : AX → List AV → AH → Prop} {T : List AV} {h h0 E E' ents : AH}
theorem w_drwE {bl tl : List AOper} {q : List Bool} (hr : adrun P [] (h0 ++ E) bl T [] fun T ents => arun P (fun c T h => Q (.pan c) T h) tl T (h0 ++ (E ++ ents)) (fun T h => Q .normal T h)) (hn : tl.all noCall = true := by rfl) : aw P n0 (.drw bl q tl) Q T (h0 ++ E) := by
  refine w_drw (rs := []) (adrun_mono ?_ _ _ _ hr)
  intro T ents hk
  rw [List.append_assoc]; exact k_of_s hn hk
theorem w_drwR (rs : List Nat) {bl tl : List AOper} {q : List Bool} (hr : adrun P rs (h0 ++ E) bl T [] fun T ents => arunK P rs q tl T (h0 ++ (E ++ ents)) (fun T h => Q .normal T h)) : aw P n0 (.drw bl q tl) Q T (h0 ++ E) := by
  refine w_drw (rs := rs) (adrun_mono ?_ _ _ _ hr)
  intro T ents hk
  rw [List.append_assoc]; exact hk
theorem k_e_nil {rs : List Nat} {q : List Bool} {tl : List AOper} (hr : arunK P rs q tl T (h0 ++ E) K) : arunK P rs q tl T (h0 ++ (E ++ [])) K := by rw [List.append_nil]; exact hr
theorem k_e_ent {rs : List Nat} {q : List Bool} {tl : List AOper} (he : E ++ ents = E') (hr : arunK P rs q tl T (h0 ++ E') K) : arunK P rs q tl T (h0 ++ (E ++ ents)) K := by rw [he]; exact hr
theorem e_nil {tl : List AOper} (hr : arun P Kp tl T (h0 ++ E) K) : arun P Kp tl T (h0 ++ (E ++ [])) K := by rw [List.append_nil]; exact hr
theorem e_ent {tl : List AOper} (he : E ++ ents = E') (hr : arun P Kp tl T (h0 ++ E') K) : arun P Kp tl T (h0 ++ (E ++ ents)) K := by rw [he]; exact hr
theorem hlk {n k : Nat} (hn : h.length = n) (hk : E.length + ents.length = k) : (h ++ E).length + ents.length = n + k := by subst hn hk; simp; omega
end

end
end Go.Ab
