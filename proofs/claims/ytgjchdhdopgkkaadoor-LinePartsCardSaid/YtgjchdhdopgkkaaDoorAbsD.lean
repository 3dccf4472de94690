/-
  Rules for stepping through code on the proof's plain values. No condition.
-/
import Derived.Test.YtgjchdhdopgkkaaDoorAbsC
set_option linter.unusedVariables false
set_option linter.unusedSimpArgs false
namespace Go.Ab
section
variable {P : Program} {n0 : Nat}
mutual
theorem lt_mono {n m : Nat} (hnm : n ≤ m) : ∀ (c : AV), c.lt n = true → c.lt m = true
  | .v _, _ => rfl
  | .any, _ => rfl
  | .sl _ _ _ cs, h => by simp only [AV.lt] at h ⊢; exact ltL_mono hnm cs h
  | .own id _ _, h => by simp only [AV.lt, decide_eq_true_eq] at h ⊢; omega
  | .ptr id _ _, h => by simp only [AV.lt, decide_eq_true_eq] at h ⊢; omega
  | .rp cs, h => by simp only [AV.lt] at h ⊢; exact ltL_mono hnm cs h
  | .agg cs, h => by simp only [AV.lt] at h ⊢; exact ltL_mono hnm cs h
  | .tup cs, h => by simp only [AV.lt] at h ⊢; exact ltL_mono hnm cs h
  | .clo _ cs, h => by simp only [AV.lt] at h ⊢; exact ltL_mono hnm cs h
theorem ltL_mono {n m : Nat} (hnm : n ≤ m) : ∀ (cs : List AV), AV.ltL n cs = true → AV.ltL m cs = true
  | [], _ => rfl
  | c :: cs, h => by simp only [AV.ltL, Bool.and_eq_true] at h ⊢; exact ⟨lt_mono hnm c h.1, ltL_mono hnm cs h.2⟩
end
theorem Ent.lt_mono {n m : Nat} (hnm : n ≤ m) {e : Ent} (h : e.lt n = true) : e.lt m = true := by
  cases e <;> simp only [Ent.lt] at h ⊢
  exact ltL_mono hnm _ h

/-- less is told of some slots -/
def Sub : List AV → List AV → Prop
  | [], [] => True
  | c :: cs, d :: ds => (d = c ∨ d = .any) ∧ Sub cs ds
  | _, _ => False
theorem Sub.refl : ∀ T, Sub T T
  | [] => trivial
  | c :: cs => ⟨.inl rfl, Sub.refl cs⟩
theorem RepL.sub {w : World} {g : Gh} : ∀ {T T1 : List AV} {vs : List Value}, Sub T T1 → RepL w g T vs → RepL w g T1 vs
  | [], [], vs, _, h => h
  | c :: cs, d :: ds, vs, hs, h => by
    simp only [RepL] at h ⊢
    obtain ⟨u, us, e, h1, h2⟩ := h
    refine ⟨u, us, e, ?_, RepL.sub hs.2 h2⟩
    rcases hs.1 with rfl | rfl
    · exact h1
    · simp only [Rep]
  | [], _ :: _, _, hs, _ => hs.elim
  | _ :: _, [], _, hs, _ => hs.elim
theorem ALe.sub {T T1 : List AV} {h : AH} (hs : Sub T T1) : ALe n0 T h T1 h := fun w0 S0 g0 a w g st => ⟨g, st.tmps.sub hs, st.defers, st.sim, st.fr, st.le, st.bd, st.ow⟩
theorem ALe.refl {T : List AV} {h : AH} : ALe n0 T h T h := fun w0 S0 g0 a w g st => ⟨g, st⟩
theorem ALe.trans {T T1 T2 : List AV} {h h1 h2 : AH} (a : ALe n0 T h T1 h1) (b : ALe n0 T1 h1 T2 h2) : ALe n0 T h T2 h2 := fun w0 S0 g0 x w g st => by
  obtain ⟨g1, s1⟩ := a w0 S0 g0 x w g st
  exact b w0 S0 g0 x w g1 s1

/-- what no slot names any more is forgotten -/
theorem ALe.cut {T : List AV} {h x : AH} (hn : n0 ≤ h.length) (hT : AV.ltL h.length T = true) (hh : ∀ e ∈ h, e.lt h.length = true) : ALe n0 T (h ++ x) T h := fun w0 S0 g0 a w g st =>
  ⟨g.cut h.length, RepL.cut _ _ hT st.tmps, st.defers, st.sim.cut hh, st.fr, st.le.cut (fun i v l hl => Nat.lt_of_lt_of_le (st.bd i v l hl) hn), st.bd, fun k hk => st.ow k hk.of_cut⟩
/-- a slice of one's own is from now on read alone -/
theorem ALe.ice {T : List AV} {h : AH} {id ver ty s d n : Nat} {cells : List AV} (hi : h[id]? = some (.mk ver ty s cells)) (hd : T[d]? = some (.own id ver n)) (hl : n * s ≤ cells.length) :
    ALe n0 T h (T.set d (.sl n s false (cells.take (n * s)))) (h.set id .gone) := fun w0 S0 g0 a w g st => by
  obtain ⟨h1, h2, h3⟩ := st.sim.ice hi
  have htm := RepL.mono (g.le_ice h id) (fun _ _ => rfl) _ _ st.tmps
  obtain ⟨u, hu, hr⟩ := st.tmps.get hd
  have hset := htm.set (k := d) (h3 n u hl hr)
  have hself : a.tmps.toList.set d u = a.tmps.toList := by
    apply List.ext_getElem?
    intro j
    by_cases hj : j = d
    · subst hj
      have : j < a.tmps.toList.length := (List.getElem?_eq_some_iff.1 hu).1
      rw [List.getElem?_set_self this, hu]
    · rw [List.getElem?_set_ne (Ne.symm hj)]
  rw [hself] at hset
  exact ⟨g.ice h id, hset, st.defers, h1, st.fr, st.le.trans (g.le_ice h id), st.bd, fun k hk => st.ow k (h2 k hk)⟩
/-- a cell is told otherwise -/
theorem SimH.tell {w : World} {g : Gh} {h : AH} (hs : SimH w g h) {id ver ty s k : Nat} {cells : List AV} {c c' : AV} (hi : h[id]? = some (.mk ver ty s cells)) (hk : cells[k]? = some c) (hc : ∀ u, Rep w g c u → Rep w g c' u) :
    SimH w g (h.set id (.mk ver ty s (cells.set k c'))) ∧ ∀ j, Ow g (h.set id (.mk ver ty s (cells.set k c'))) j → Ow g h j := by
  have hid : id < h.length := (List.getElem?_eq_some_iff.1 hi).1
  have hget : ∀ {i v t s' : Nat} {cs : List AV}, (h.set id (.mk ver ty s (cells.set k c')))[i]? = some (.mk v t s' cs) → ∃ cs', h[i]? = some (.mk v t s' cs') ∧ (i ≠ id → cs' = cs) ∧ (i = id → cs' = cells ∧ cs = cells.set k c') := by
    intro i v t s' cs he
    by_cases hii : i = id
    · subst hii
      rw [List.getElem?_set_self hid] at he
      cases he
      exact ⟨cells, hi, fun h => absurd rfl h, fun _ => ⟨rfl, rfl⟩⟩
    · rw [List.getElem?_set_ne (Ne.symm hii)] at he
      exact ⟨cs, he, fun _ => rfl, fun h => absurd h hii⟩
  have how : ∀ i j, OwAt g (h.set id (.mk ver ty s (cells.set k c'))) i j → OwAt g h i j := by
    rintro i j ⟨v, t, s', cs, b, cap, e1, e2, e3, e4⟩
    obtain ⟨cs', f1, _⟩ := hget e1
    exact ⟨v, t, s', cs', b, cap, f1, e2, e3, e4⟩
  refine ⟨⟨?_, fun i j k' h1 h2 => hs.inj i j k' (how i k' h1) (how j k' h2), hs.lt, ?_, ?_, ⟨hs.glob.w, hs.glob.d⟩⟩, fun j ⟨i, hj⟩ => ⟨i, how i j hj⟩⟩
  · intro i v t s' cs he
    obtain ⟨cs', f1, f2, f3⟩ := hget he
    obtain ⟨A, cap, e1, e2, e3⟩ := hs.ent _ _ _ _ _ f1
    refine ⟨A, cap, e1, e2, ?_⟩
    by_cases hii : i = id
    · obtain ⟨rfl, rfl⟩ := f3 hii
      rcases e3 with ⟨h0, h1⟩ | ⟨b, arr, rfl, x1, x2, x3, x4, x5, x6⟩
      · rw [h0] at hk; simp at hk
      · refine .inr ⟨b, arr, rfl, x1, x2, x3, x4, by simpa using x5, ?_⟩
        obtain ⟨u, hu, hr⟩ := x6.get hk
        have := x6.set (k := k) (hc u hr)
        have hself : (arr.toList.take cs'.length).set k u = arr.toList.take cs'.length := by
          apply List.ext_getElem?
          intro j
          by_cases hj : j = k
          · subst hj
            have : j < (arr.toList.take cs'.length).length := (List.getElem?_eq_some_iff.1 hu).1
            rw [List.getElem?_set_self this, hu]
          · rw [List.getElem?_set_ne (Ne.symm hj)]
        rw [hself] at this
        simpa using this
    · rw [← f2 hii]; exact e3
  · intro i v l hl
    have := hs.fresh i v l hl
    refine ⟨by simpa using this.1, fun v' t s' cs he => ?_⟩
    obtain ⟨cs', f1, _⟩ := hget he
    exact this.2 _ _ _ _ f1
  · intro i v l hl he
    by_cases hii : i = id
    · subst hii; rw [List.getElem?_set_self hid] at he; cases he
    · rw [List.getElem?_set_ne (Ne.symm hii)] at he; exact hs.free _ _ _ hl he
/-- a slice of one's own in a cell is from now on read alone -/
theorem ALe.iceCell {T : List AV} {h : AH} {id ver ty s n j v' t' s' k : Nat} {cells cs : List AV} (hi : h[id]? = some (.mk ver ty s cells)) (hj : h[j]? = some (.mk v' t' s' cs)) (hne : j ≠ id) (hk : cs[k]? = some (.own id ver n)) (hl : n * s ≤ cells.length) :
    ALe n0 T h T ((h.set id .gone).set j (.mk v' t' s' (cs.set k (.sl n s false (cells.take (n * s)))))) := fun w0 S0 g0 a w g st => by
  obtain ⟨h1, h2, h3⟩ := st.sim.ice hi
  have htm := RepL.mono (g.le_ice h id) (fun _ _ => rfl) _ _ st.tmps
  obtain ⟨k1, k2⟩ := h1.tell (id := j) (by rw [List.getElem?_set_ne (Ne.symm hne)]; exact hj) hk (fun u hu => h3 n u hl (by
    simp only [Rep] at hu ⊢
    exact hu))
  exact ⟨g.ice h id, htm, st.defers, k1, st.fr, st.le.trans (g.le_ice h id), st.bd, fun i hi => st.ow i (h2 i (k2 i hi))⟩

theorem enters_of_compF {f : FuncId} {af : AF} (hc : compF P f = some af) : enters P f = true := by
  unfold compF at hc
  split at hc <;> try (cases hc; done)
  rename_i fn hfn
  split at hc <;> try (cases hc; done)
  rename_i hname
  split at hc <;> try (cases hc; done)
  rename_i c hb
  simp only [enters, hfn, hb]
  simp only [Bool.not_eq_true] at hname
  simp [bne, hname]
/-- into a function that leaves the heap as it was -/
theorem ACalls.enter {f : FuncId} {af : AF} (hc : compF P f = some af) {args : List AV} {h : AH} {R : AE → Prop}
    (hw : ∀ n, h.length = n → (∀ e ∈ h, e.lt n = true) → AV.ltL n args = true → aw P n af.code (retA af.res fun x h' => ∃ z, h' = h ++ z ∧ x.lt n = true ∧ R x) (args ++ List.replicate (af.ntmps - args.length) .any) (h ++ [])) : ACalls P f args h fun x h' => h' = h ∧ R x :=
  ⟨enters_of_compF hc, fun w g vs hs ha => (ACalls.gc_same (ACalls.of_aw hc (by
    have := hw h.length rfl hs.ltE (RepL.lt (fun i v l hl => (hs.fresh i v l hl).1) _ _ ha)
    rwa [List.append_nil] at this))).2 w g vs hs ha⟩
/-- into a function that turns entries of the heap -/
theorem ACalls.enterG {f : FuncId} {af : AF} (hc : compF P f = some af) {args : List AV} {h : AH} {R : AE → AH → Prop}
    (hw : ∀ n, h.length = n → (∀ e ∈ h, e.lt n = true) → AV.ltL n args = true → aw P n af.code (retA af.res fun x h' => ∃ y z, h' = y ++ z ∧ y.length = n ∧ (∀ e ∈ y, e.lt n = true) ∧ x.lt n = true ∧ R x y) (args ++ List.replicate (af.ntmps - args.length) .any) (h ++ [])) : ACalls P f args h R :=
  ⟨enters_of_compF hc, fun w g vs hs ha => (ACalls.gc (ACalls.of_aw hc (by
    have := hw h.length rfl hs.ltE (RepL.lt (fun i v l hl => (hs.fresh i v l hl).1) _ _ ha)
    rwa [List.append_nil] at this))).2 w g vs hs ha⟩

/-- the head of a loop is come to again -/
def LoopTo (n0 : Nat) {ι : Type} (S : ι → List AV × AH) (I : ι → Prop) (m : ι → Nat) (i : ι) (T : List AV) (h : AH) : Prop :=
  ∃ k, k < m i ∧ ∃ T1 h1, ALe n0 T h T1 h1 ∧ ∃ j, m j = k ∧ I j ∧ T1 = (S j).1 ∧ h1 = (S j).2
theorem LoopTo.mk {ι : Type} {S : ι → List AV × AH} {I : ι → Prop} {m : ι → Nat} {i : ι} {T : List AV} {h : AH} (j : ι) (hm : m j < m i) (hI : I j) (hl : ALe n0 T h (S j).1 (S j).2) : LoopTo n0 S I m i T h :=
  ⟨m j, hm, _, _, hl, j, rfl, hI, rfl, rfl⟩
/-- a loop, by a family of states -/
theorem aw_loop {a : AC} {Q : AX → List AV → AH → Prop} {T : List AV} {h : AH} {ι : Type} (S : ι → List AV × AH) (I : ι → Prop) (m : ι → Nat) (i0 : ι) (hI : I i0) (h0 : ALe n0 T h (S i0).1 (S i0).2)
    (round : ∀ i, I i → aw P n0 a (AX.thn (LoopTo n0 S I m i) Q) (S i).1 (S i).2) : aw P n0 (.loop a) Q T h := by
  refine ⟨fun n T h => ∃ i, m i = n ∧ I i ∧ T = (S i).1 ∧ h = (S i).2, m i0, ⟨_, _, h0, i0, rfl, hI, rfl, rfl⟩, ?_⟩
  rintro n T h ⟨i, rfl, hi, rfl, rfl⟩
  exact round i hi

end
section
variable {P : Program} {n0 : Nat}
abbrev iv (n : Int) : AV := .v (.int .i64 n)
abbrev bv (b : Bool) : AV := .v (.bool b)
abbrev sv (s : ByteArray) : AV := .v (.string s)

section run
variable {Kp : AV → List AV → AH → Prop} {K : List AV → AH → Prop} {rest : List AOper} {T T' : List AV} {h h' h0 ents ents' : AH} {rs : List Nat} {d : Option Nat} {op : AOp} {c : AV}
/-- neither a call nor a load that is looked at -/
def noD (o : AOper) : Bool := noCall o && !isL o.op
theorem s_val (hn : noCall ⟨d, none, op⟩ = true) (hv : aval h (aEval T) op = some c) (hp : aPut T d c = T') (hk : arun P Kp rest T' h K) : arun P Kp (⟨d, none, op⟩ :: rest) T h K := by
  subst hp
  refine ⟨fun _ => ?_, fun h => by cases h⟩
  have : (match aval h (aEval T) op with
      | some c => arun P Kp rest (aPut T d c) h K
      | none => match aeff h (aEval T) op with
        | some (c, h') => arun P Kp rest (aPut T d c) h' K
        | none => False) := by rw [hv]; exact hk
  cases op <;> first | exact this | (simp [noCall] at hn; done)
theorem s_eff (hn : noCall ⟨d, none, op⟩ = true) (hv : aval h (aEval T) op = none) (he : aeff h (aEval T) op = some (c, h')) (hp : aPut T d c = T') (hk : arun P Kp rest T' h' K) : arun P Kp (⟨d, none, op⟩ :: rest) T h K := by
  subst hp
  refine ⟨fun _ => ?_, fun h => by cases h⟩
  have : (match aval h (aEval T) op with
      | some c => arun P Kp rest (aPut T d c) h K
      | none => match aeff h (aEval T) op with
        | some (c, h') => arun P Kp rest (aPut T d c) h' K
        | none => False) := by rw [hv, he]; exact hk
  cases op <;> first | exact this | (simp [noCall] at hn; done)
theorem d_val (hn : noD ⟨d, none, op⟩ = true) (hv : aval h0 (aEval T) op = some c) (hp : aPut T d c = T') (hk : adrun P rs h0 rest T' ents K) : adrun P rs h0 (⟨d, none, op⟩ :: rest) T ents K := by
  subst hp
  refine ⟨fun _ => ?_, fun h => by cases h⟩
  have : (match aval h0 (aEval T) op with
      | some c => adrun P rs h0 rest (aPut T d c) ents K
      | none => ∃ c ent, (aallo (h0.length + ents.length) (aEval T) op = some (c, ent) ∨ aalloI (h0.length + ents.length) (aEval T) op = some (c, ent)) ∧ adrun P rs h0 rest (aPut T d c) (ents ++ [ent]) K) := by rw [hv]; exact hk
  cases op <;> first | exact this | (simp [noD, noCall, isL] at hn; done)
theorem d_eff {ent : Ent} {id : Nat} (hn : noD ⟨d, none, op⟩ = true) (hv : aval h0 (aEval T) op = none) (hl : h0.length + ents.length = id) (he : aallo id (aEval T) op = some (c, ent)) (hp : aPut T d c = T') (hx : ents ++ [ent] = ents') (hk : adrun P rs h0 rest T' ents' K) : adrun P rs h0 (⟨d, none, op⟩ :: rest) T ents K := by
  subst hp hx hl
  refine ⟨fun _ => ?_, fun h => by cases h⟩
  have : (match aval h0 (aEval T) op with
      | some c => adrun P rs h0 rest (aPut T d c) ents K
      | none => ∃ c ent, (aallo (h0.length + ents.length) (aEval T) op = some (c, ent) ∨ aalloI (h0.length + ents.length) (aEval T) op = some (c, ent)) ∧ adrun P rs h0 rest (aPut T d c) (ents ++ [ent]) K) := by rw [hv]; exact ⟨c, ent, .inl he, hk⟩
  cases op <;> first | exact this | (simp [noD, noCall, isL] at hn; done)
theorem d_effI {ent : Ent} {id : Nat} (hn : noD ⟨d, none, op⟩ = true) (hv : aval h0 (aEval T) op = none) (hl : h0.length + ents.length = id) (he : aalloI id (aEval T) op = some (c, ent)) (hp : aPut T d c = T') (hx : ents ++ [ent] = ents') (hk : adrun P rs h0 rest T' ents' K) : adrun P rs h0 (⟨d, none, op⟩ :: rest) T ents K := by
  subst hp hx hl
  refine ⟨fun _ => ?_, fun h => by cases h⟩
  have : (match aval h0 (aEval T) op with
      | some c => adrun P rs h0 rest (aPut T d c) ents K
      | none => ∃ c ent, (aallo (h0.length + ents.length) (aEval T) op = some (c, ent) ∨ aalloI (h0.length + ents.length) (aEval T) op = some (c, ent)) ∧ adrun P rs h0 rest (aPut T d c) (ents ++ [ent]) K) := by rw [hv]; exact ⟨c, ent, .inr he, hk⟩
  cases op <;> first | exact this | (simp [noD, noCall, isL] at hn; done)
/-- a load that the tail does not disturb -/
theorem d_ldP {agg : Bool} {sz id v off ty s : Nat} {cells : List AV} {x : Operand} (hx : aEval T x = .ptr id v off) (he : h0[id]? = some (.mk v ty s cells)) (hc : loadAV agg sz (cells.drop off) = some c) (hm : id ∈ rs) (hp : aPut T d c = T') (hk : adrun P rs h0 rest T' ents K) : adrun P rs h0 (⟨d, none, .loadR agg sz x⟩ :: rest) T ents K := by
  subst hp
  refine ⟨fun _ => ?_, fun h => by cases h⟩
  simp only [adstep, hx]
  exact ⟨ty, s, cells, c, he, hc, hm, hk⟩
theorem d_ldR {agg : Bool} {sz : Nat} {cs : List AV} {x : Operand} (hx : aEval T x = .rp cs) (hc : loadAV agg sz cs = some c) (hp : aPut T d c = T') (hk : adrun P rs h0 rest T' ents K) : adrun P rs h0 (⟨d, none, .loadR agg sz x⟩ :: rest) T ents K := by
  subst hp
  refine ⟨fun _ => ?_, fun h => by cases h⟩
  simp only [adstep, hx, hc]
  exact hk
theorem k_nil {q : List Bool} (hk : K T h) : arunK P rs q [] T h K := by cases q <;> exact hk
theorem k_val {m : Bool} {q : List Bool} (hn : noCall ⟨d, none, op⟩ = true) (hv : aval h (aEval T) op = some c) (hp : aPut T d c = T') (hk : arunK P rs q rest T' h K) : arunK P rs (m :: q) (⟨d, none, op⟩ :: rest) T h K := by
  subst hp
  refine ⟨fun _ => ?_, fun h => by cases h⟩
  have : (match aval h (aEval T) op with
      | some c => arunK P rs q rest (aPut T d c) h K
      | none => match aeff h (aEval T) op with
        | some (c, h') => (∀ id ∈ (bif m then rs else []), h'[id]? = h[id]?) ∧ arunK P rs q rest (aPut T d c) h' K
        | none => False) := by rw [hv]; exact hk
  cases op <;> first | exact this | (simp [noCall] at hn; done)
theorem k_eff {m : Bool} {q : List Bool} (hn : noCall ⟨d, none, op⟩ = true) (hv : aval h (aEval T) op = none) (he : aeff h (aEval T) op = some (c, h')) (hr : ∀ id ∈ (bif m then rs else []), h'[id]? = h[id]?) (hp : aPut T d c = T') (hk : arunK P rs q rest T' h' K) : arunK P rs (m :: q) (⟨d, none, op⟩ :: rest) T h K := by
  subst hp
  refine ⟨fun _ => ?_, fun h => by cases h⟩
  have : (match aval h (aEval T) op with
      | some c => arunK P rs q rest (aPut T d c) h K
      | none => match aeff h (aEval T) op with
        | some (c, h') => (∀ id ∈ (bif m then rs else []), h'[id]? = h[id]?) ∧ arunK P rs q rest (aPut T d c) h' K
        | none => False) := by rw [hv, he]; exact ⟨hr, hk⟩
  cases op <;> first | exact this | (simp [noCall] at hn; done)
theorem k_call {m : Bool} {q : List Bool} {f : FuncId} {xs : List Operand} {ats : List AV} (hx : xs.map (aEval T) = ats) (hc : ACalls P f ats h fun r h2 => r = .ret c ∧ h2 = h') (hr : ∀ id ∈ (bif m then rs else []), h'[id]? = h[id]?) (hp : aPut T d c = T') (hk : arunK P rs q rest T' h' K) : arunK P rs (m :: q) (⟨d, none, .call (.func f) xs⟩ :: rest) T h K := by
  subst hp hx
  refine ⟨fun _ => ?_, fun h => by cases h⟩
  exact ⟨c, h', ⟨rfl, rfl, hc.mono fun r h2 hr => ⟨hr.2, hr.1⟩⟩, hr, hk⟩
theorem agd_mono {g : Option (Nat × Bool)} {T : List AV} {f f' : Bool → Prop} (hf : ∀ b, f b → f' b) (h : agd g T f) : agd g T f' := by
  unfold agd at *
  split
  · exact hf _ h
  · split <;> rename_i hx <;> simp only [hx] at h <;> first | exact hf _ h | exact h
theorem k_of_s : ∀ {al : List AOper} {q : List Bool} {T : List AV} {h : AH}, al.all noCall = true → arun P Kp al T h K → arunK P [] q al T h K
  | [], q, _, _, _, hr => k_nil hr
  | ⟨d, g, op⟩ :: al, q, T, h, hn, hr => by
    simp only [List.all_cons, Bool.and_eq_true] at hn
    simp only [arun] at hr
    simp only [arunK]
    refine agd_mono (fun b hb => ⟨fun e => ?_, fun e => k_of_s hn.2 (hb.2 e)⟩) hr
    have h1 := hb.1 e
    have : (match aval h (aEval T) op with
      | some c => arunK P [] q.tail al (aPut T d c) h K
      | none => match aeff h (aEval T) op with
        | some (c, h') => (∀ id ∈ (bif q.headD true then ([] : List Nat) else []), h'[id]? = h[id]?) ∧ arunK P [] q.tail al (aPut T d c) h' K
        | none => False) := by
      have h2 : (match aval h (aEval T) op with
        | some c => arun P Kp al (aPut T d c) h K
        | none => match aeff h (aEval T) op with
          | some (c, h') => arun P Kp al (aPut T d c) h' K
          | none => False) := by
        cases op <;> first | exact h1 | (simp [noCall] at hn; done)
      cases hv : aval h (aEval T) op with
      | some c => rw [hv] at h2; exact k_of_s hn.2 h2
      | none =>
        rw [hv] at h2
        cases hv2 : aeff h (aEval T) op with
        | some p => rw [hv2] at h2; exact ⟨fun _ hm => (by cases hq : q.headD true <;> rw [hq] at hm <;> cases hm), k_of_s hn.2 h2⟩
        | none => rw [hv2] at h2; exact h2
    cases op <;> first | exact this | (simp [noCall] at hn; done)
/-- guards -/
theorem s_do {t : Nat} {b : Bool} (ht : T[t]? = some (.v (.bool b))) (hk : arun P Kp (⟨d, none, op⟩ :: rest) T h K) : arun P Kp (⟨d, some (t, b), op⟩ :: rest) T h K := by
  have h1 := hk.1 rfl
  simp only [arun, agd, ht]
  cases b <;> exact ⟨fun _ => h1, fun h => (by cases h)⟩
theorem s_no {t : Nat} {b : Bool} (ht : T[t]? = some (.v (.bool (!b)))) (hp : aPut T d (.v undef) = T') (hk : arun P Kp rest T' h K) : arun P Kp (⟨d, some (t, b), op⟩ :: rest) T h K := by
  subst hp
  simp only [arun, agd, ht]
  cases b <;> exact ⟨fun h => (by cases h), fun _ => hk⟩
theorem s_nu {t : Nat} {b : Bool} {vs : Array Value} (ht : T[t]? = some (.v (.tuple vs))) (hp : aPut T d (.v undef) = T') (hk : arun P Kp rest T' h K) : arun P Kp (⟨d, some (t, b), op⟩ :: rest) T h K := by
  subst hp
  simp only [arun, agd, ht]
  exact ⟨fun h => (by cases h), fun _ => hk⟩
theorem d_do {t : Nat} {b : Bool} (ht : T[t]? = some (.v (.bool b))) (hk : adrun P rs h0 (⟨d, none, op⟩ :: rest) T ents K) : adrun P rs h0 (⟨d, some (t, b), op⟩ :: rest) T ents K := by
  have h1 := hk.1 rfl
  simp only [adrun, agd, ht]
  cases b <;> exact ⟨fun _ => h1, fun h => (by cases h)⟩
theorem d_no {t : Nat} {b : Bool} (ht : T[t]? = some (.v (.bool (!b)))) (hp : aPut T d (.v undef) = T') (hk : adrun P rs h0 rest T' ents K) : adrun P rs h0 (⟨d, some (t, b), op⟩ :: rest) T ents K := by
  subst hp
  simp only [adrun, agd, ht]
  cases b <;> exact ⟨fun h => (by cases h), fun _ => hk⟩
theorem d_nu {t : Nat} {b : Bool} {vs : Array Value} (ht : T[t]? = some (.v (.tuple vs))) (hp : aPut T d (.v undef) = T') (hk : adrun P rs h0 rest T' ents K) : adrun P rs h0 (⟨d, some (t, b), op⟩ :: rest) T ents K := by
  subst hp
  simp only [adrun, agd, ht]
  exact ⟨fun h => (by cases h), fun _ => hk⟩
/-- a test in a slot is decided: both ways -/
theorem s_split {t : Nat} {p : Prop} [Decidable p] {T1 T2 : List AV} {al : List AOper} (ht : T[t]? = some (.v (.bool (decide p)))) (hp1 : T.set t (.v (.bool true)) = T1) (hp2 : T.set t (.v (.bool false)) = T2) (hy : p → arun P Kp al T1 h K) (hn : ¬ p → arun P Kp al T2 h K) : arun P Kp al T h K := by
  have hself : T.set t (.v (.bool (decide p))) = T := by
    apply List.ext_getElem?
    intro j
    by_cases hj : j = t
    · subst hj
      have : j < T.length := (List.getElem?_eq_some_iff.1 ht).1
      rw [List.getElem?_set_self this, ht]
    · rw [List.getElem?_set_ne (Ne.symm hj)]
  by_cases hp : p
  · have := hy hp
    rw [← hp1] at this
    rwa [← hself, decide_eq_true hp]
  · have := hn hp
    rw [← hp2] at this
    rwa [← hself, decide_eq_false hp]
theorem d_split {t : Nat} {p : Prop} [Decidable p] {T1 T2 : List AV} {al : List AOper} (ht : T[t]? = some (.v (.bool (decide p)))) (hp1 : T.set t (.v (.bool true)) = T1) (hp2 : T.set t (.v (.bool false)) = T2) (hy : p → adrun P rs h0 al T1 ents K) (hn : ¬ p → adrun P rs h0 al T2 ents K) : adrun P rs h0 al T ents K := by
  have hself : T.set t (.v (.bool (decide p))) = T := by
    apply List.ext_getElem?
    intro j
    by_cases hj : j = t
    · subst hj
      have : j < T.length := (List.getElem?_eq_some_iff.1 ht).1
      rw [List.getElem?_set_self this, ht]
    · rw [List.getElem?_set_ne (Ne.symm hj)]
  by_cases hp : p
  · have := hy hp
    rw [← hp1] at this
    rwa [← hself, decide_eq_true hp]
  · have := hn hp
    rw [← hp2] at this
    rwa [← hself, decide_eq_false hp]
theorem s_call {f : FuncId} {xs : List Operand} {ats : List AV} {R : AE → AH → Prop} (hx : xs.map (aEval T) = ats) (hc : ACalls P f ats h R) (hk : ∀ r h', R r h' → match r with
    | .ret c => arun P Kp rest (aPut T d c) h' K
    | .pan c => Kp c T h') : arun P Kp (⟨d, none, .call (.func f) xs⟩ :: rest) T h K := by
  subst hx
  refine ⟨fun _ => ?_, fun h => by cases h⟩
  exact ⟨rfl, rfl, hc.mono fun r h' hr => hk r h' hr⟩
/-- a call that leaves the heap ats it was -/
theorem s_callp {f : FuncId} {xs : List Operand} {ats : List AV} (hx : xs.map (aEval T) = ats) (hc : ACalls P f ats h fun r h' => h' = h ∧ r = .ret c) (hp : aPut T d c = T') (hk : arun P Kp rest T' h K) : arun P Kp (⟨d, none, .call (.func f) xs⟩ :: rest) T h K := by
  subst hp
  refine s_call hx hc ?_
  rintro r h' ⟨rfl, rfl⟩
  exact hk
theorem d_callp {f : FuncId} {xs : List Operand} {ats : List AV} (hx : xs.map (aEval T) = ats) (hc : ∀ h, HExt h0 h → ACalls P f ats h fun r h' => h' = h ∧ r = .ret c) (hp : aPut T d c = T') (hk : adrun P rs h0 rest T' ents K) : adrun P rs h0 (⟨d, none, .call (.func f) xs⟩ :: rest) T ents K := by
  subst hp hx
  refine ⟨fun _ => ⟨c, fun h hh => ⟨rfl, rfl, hc h hh⟩, hk⟩, fun h => by cases h⟩
theorem s_panic {x : Operand} {t : Nat} {v : Value} (hx : aEval T x = .v (.iface t v)) (hk : Kp (.v (.iface t v)) T h) : arun P Kp (⟨d, none, .panic x⟩ :: rest) T h K := by
  refine ⟨fun _ => ?_, fun h => by cases h⟩
  simp only [astep, hx]
  exact hk
end run

section vals
variable {h : AH} {T : List AV} {x y i : Operand} {c : AV}
theorem v_mv (hx : aEval T x = c) : aval h (aEval T) (.mv x) = some c := by simp only [aval, hx]
theorem v_pickT {a b k : Operand} (hk : aEval T k = bv true) (ha : aEval T a = c) : aval h (aEval T) (.pick k a b) = some c := by simp only [aval, hk, cond_true, ha]
theorem v_pickF {a b k : Operand} (hk : aEval T k = bv false) (hb : aEval T b = c) : aval h (aEval T) (.pick k a b) = some c := by simp only [aval, hk, cond_false, hb]
theorem v_loadp {sz id v o ty s : Nat} {cells : List AV} (hx : aEval T x = .ptr id v o) (he : h[id]? = some (.mk v ty s cells)) (hc : cells[o]? = some c) : aval h (aEval T) (.load false sz x) = some c := by
  simp only [aval, hx, cellsAt, he, if_true, Option.bind_some]
  have : cells.drop o = c :: cells.drop (o + 1) := by
    obtain ⟨hlt, rfl⟩ := List.getElem?_eq_some_iff.1 hc
    exact List.drop_eq_getElem_cons hlt
  rw [this]; rfl
theorem v_loadpA {sz id v o ty s : Nat} {cells cs : List AV} (hx : aEval T x = .ptr id v o) (he : h[id]? = some (.mk v ty s cells)) (hc : (cells.drop o).take sz = cs) (hl : cs.length = sz) : aval h (aEval T) (.load true sz x) = some (.agg cs) := by
  simp only [aval, hx, cellsAt, he, if_true, Option.bind_some, loadAV]
  subst hc
  rw [List.length_take] at hl
  rw [if_pos (by omega)]
theorem v_loadr {sz : Nat} {cells : List AV} (hx : aEval T x = .rp cells) (hc : cells[0]? = some c) : aval h (aEval T) (.load false sz x) = some c := by
  simp only [aval, hx, cellsAt, Option.bind_some]
  cases cells with
  | nil => simp at hc
  | cons a l => simp at hc; subst hc; rfl
theorem v_loadrA {sz : Nat} {cells cs : List AV} (hx : aEval T x = .rp cells) (hc : cells.take sz = cs) (hl : cs.length = sz) : aval h (aEval T) (.load true sz x) = some (.agg cs) := by
  simp only [aval, hx, cellsAt, Option.bind_some, loadAV]
  subst hc
  rw [List.length_take] at hl
  rw [if_pos (by omega)]
theorem v_loadR {sz : Nat} {cells : List AV} (hx : aEval T x = .rp cells) (hc : cells[0]? = some c) : aval h (aEval T) (.loadR false sz x) = some c := by
  simp only [aval, hx]
  cases cells with
  | nil => simp at hc
  | cons a l => simp at hc; subst hc; rfl
theorem v_loadRA {sz : Nat} {cells cs : List AV} (hx : aEval T x = .rp cells) (hc : cells.take sz = cs) (hl : cs.length = sz) : aval h (aEval T) (.loadR true sz x) = some (.agg cs) := by
  simp only [aval, hx, loadAV]
  subst hc
  rw [List.length_take] at hl
  rw [if_pos (by omega)]
theorem v_nckp {id v o : Nat} (hx : aEval T x = .ptr id v o) : aval h (aEval T) (.nck x) = some (.ptr id v o) := by simp only [aval, hx]
theorem v_nckr {cs : List AV} (hx : aEval T x = .rp cs) : aval h (aEval T) (.nck x) = some (.rp cs) := by simp only [aval, hx]
theorem v_fap {off id v o : Nat} (hx : aEval T x = .ptr id v o) : aval h (aEval T) (.fa off x) = some (.ptr id v (o + off)) := by simp only [aval, hx]
theorem v_fap0 {off id v : Nat} (hx : aEval T x = .ptr id v 0) : aval h (aEval T) (.fa off x) = some (.ptr id v off) := by simp only [aval, hx, Nat.zero_add]
theorem v_far {off : Nat} {cs ds : List AV} (hx : aEval T x = .rp cs) (hd : cs.drop off = ds) : aval h (aEval T) (.fa off x) = some (.rp ds) := by simp only [aval, hx, hd]
theorem v_fld {off sz : Nat} {cs : List AV} (hx : aEval T x = .agg cs) (hc : cs[off]? = some c) : aval h (aEval T) (.fld false off sz x) = some c := by
  simp only [aval, hx, partAV]
  have : cs.drop off = c :: cs.drop (off + 1) := by
    obtain ⟨hlt, rfl⟩ := List.getElem?_eq_some_iff.1 hc
    exact List.drop_eq_getElem_cons hlt
  rw [this]; rfl
theorem v_fldA {off sz : Nat} {cs ds : List AV} (hx : aEval T x = .agg cs) (hc : (cs.drop off).take sz = ds) (hl : ds.length = sz) : aval h (aEval T) (.fld true off sz x) = some (.agg ds) := by
  simp only [aval, hx, partAV, loadAV]
  subst hc
  rw [List.length_take] at hl
  rw [if_pos (by omega)]
theorem v_bin {op : BinOp} {a b : Value} (hx : aEval T x = .v a) (hy : aEval T y = .v b) (hv : vBin op a b = some c) : aval h (aEval T) (.bin op x y) = some c := by simp only [aval, hx, hy, hv]
theorem w64 {e : Int} (h1 : -9223372036854775808 ≤ e) (h2 : e ≤ 9223372036854775807) : IntKind.i64.wrap e = e := by rw [IntKind.wrap_i64]; omega
theorem v_add {a b : Int} (hx : aEval T x = iv a) (hy : aEval T y = iv b) (h1 : -9223372036854775808 ≤ a + b) (h2 : a + b ≤ 9223372036854775807) : aval h (aEval T) (.bin .add x y) = some (iv (a + b)) := v_bin hx hy (by simp only [vBin, if_true, iBin, w64 h1 h2])
theorem v_sub {a b : Int} (hx : aEval T x = iv a) (hy : aEval T y = iv b) (h1 : -9223372036854775808 ≤ a - b) (h2 : a - b ≤ 9223372036854775807) : aval h (aEval T) (.bin .sub x y) = some (iv (a - b)) := v_bin hx hy (by simp only [vBin, if_true, iBin, w64 h1 h2])
theorem v_mul {a b : Int} (hx : aEval T x = iv a) (hy : aEval T y = iv b) (h1 : -9223372036854775808 ≤ a * b) (h2 : a * b ≤ 9223372036854775807) : aval h (aEval T) (.bin .mul x y) = some (iv (a * b)) := v_bin hx hy (by simp only [vBin, if_true, iBin, w64 h1 h2])
theorem v_addw {a b : Int} {k : IntKind} (hx : aEval T x = .v (.int k a)) (hy : aEval T y = .v (.int k b)) : aval h (aEval T) (.bin .add x y) = some (.v (.int k (k.wrap (a + b)))) := v_bin hx hy (by simp only [vBin, if_true, iBin])
theorem v_subw {a b : Int} {k : IntKind} (hx : aEval T x = .v (.int k a)) (hy : aEval T y = .v (.int k b)) : aval h (aEval T) (.bin .sub x y) = some (.v (.int k (k.wrap (a - b)))) := v_bin hx hy (by simp only [vBin, if_true, iBin])
theorem v_mulw {a b : Int} {k : IntKind} (hx : aEval T x = .v (.int k a)) (hy : aEval T y = .v (.int k b)) : aval h (aEval T) (.bin .mul x y) = some (.v (.int k (k.wrap (a * b)))) := v_bin hx hy (by simp only [vBin, if_true, iBin])
theorem v_quo {a b : Int} (hx : aEval T x = iv a) (hy : aEval T y = iv b) (h0 : 0 ≤ a) (hb : 0 < b) (h2 : a ≤ 9223372036854775807) : aval h (aEval T) (.bin .quo x y) = some (iv (a / b)) := v_bin hx hy (by
  have e : a.tdiv b = a / b := Int.tdiv_eq_ediv_of_nonneg h0
  have h3 : a / b ≤ a := Int.ediv_le_self _ h0
  have h4 : 0 ≤ a / b := Int.ediv_nonneg h0 (by omega)
  simp only [vBin, if_true, iBin, if_neg (show ¬ b = 0 by omega), e, w64 (show -9223372036854775808 ≤ a / b by omega) (show a / b ≤ 9223372036854775807 by omega)])
theorem v_quow {a b : Int} {k : IntKind} (hx : aEval T x = .v (.int k a)) (hy : aEval T y = .v (.int k b)) (hb : b ≠ 0) : aval h (aEval T) (.bin .quo x y) = some (.v (.int k (k.wrap (a.tdiv b)))) := v_bin hx hy (by simp only [vBin, if_true, iBin, if_neg hb])
theorem v_rem {a b : Int} {k : IntKind} (hx : aEval T x = .v (.int k a)) (hy : aEval T y = .v (.int k b)) (h0 : 0 ≤ a) (hb : b ≠ 0) : aval h (aEval T) (.bin .rem x y) = some (.v (.int k (a % b))) := v_bin hx hy (by
  have e : a.tmod b = a % b := Int.tmod_eq_emod_of_nonneg h0
  simp only [vBin, if_true, iBin, if_neg hb, e])
theorem v_remw {a b : Int} {k : IntKind} (hx : aEval T x = .v (.int k a)) (hy : aEval T y = .v (.int k b)) (hb : b ≠ 0) : aval h (aEval T) (.bin .rem x y) = some (.v (.int k (a.tmod b))) := v_bin hx hy (by simp only [vBin, if_true, iBin, if_neg hb])
theorem v_lss {a b : Int} {k : IntKind} (hx : aEval T x = .v (.int k a)) (hy : aEval T y = .v (.int k b)) : aval h (aEval T) (.bin .lss x y) = some (bv (decide (a < b))) := v_bin hx hy (by simp only [vBin, if_true, iBin])
theorem v_leq {a b : Int} {k : IntKind} (hx : aEval T x = .v (.int k a)) (hy : aEval T y = .v (.int k b)) : aval h (aEval T) (.bin .leq x y) = some (bv (decide (a ≤ b))) := v_bin hx hy (by simp only [vBin, if_true, iBin])
theorem v_gtr {a b : Int} {k : IntKind} (hx : aEval T x = .v (.int k a)) (hy : aEval T y = .v (.int k b)) : aval h (aEval T) (.bin .gtr x y) = some (bv (decide (b < a))) := v_bin hx hy (by simp only [vBin, if_true, iBin, gt_iff_lt])
theorem v_geq {a b : Int} {k : IntKind} (hx : aEval T x = .v (.int k a)) (hy : aEval T y = .v (.int k b)) : aval h (aEval T) (.bin .geq x y) = some (bv (decide (b ≤ a))) := v_bin hx hy (by simp only [vBin, if_true, iBin, ge_iff_le])
theorem v_eql {a b : Int} {k : IntKind} (hx : aEval T x = .v (.int k a)) (hy : aEval T y = .v (.int k b)) : aval h (aEval T) (.bin .eql x y) = some (bv (decide (a = b))) := v_bin hx hy (by simp only [vBin, if_true, iBin]; rfl)
theorem v_neq {a b : Int} {k : IntKind} (hx : aEval T x = .v (.int k a)) (hy : aEval T y = .v (.int k b)) : aval h (aEval T) (.bin .neq x y) = some (bv (decide (a ≠ b))) := v_bin hx hy (by
  simp only [vBin, if_true, iBin]
  by_cases hab : a = b <;> simp [hab])
theorem bytes_beq (a b : ByteArray) : (a == b) = decide (a = b) := by
  rw [beq_toListBytes, ByteArray.toList_eq, ByteArray.toList_eq]
  by_cases h : a = b
  · subst h; simp
  · have : a.data ≠ b.data := fun e => h (ByteArray.ext e)
    simp [h, this]
theorem v_eqlS {a b : ByteArray} (hx : aEval T x = sv a) (hy : aEval T y = sv b) : aval h (aEval T) (.bin .eql x y) = some (bv (decide (a = b))) := v_bin hx hy (by simp only [vBin, sBin, bytes_beq])
theorem v_neqS {a b : ByteArray} (hx : aEval T x = sv a) (hy : aEval T y = sv b) : aval h (aEval T) (.bin .neq x y) = some (bv (decide (a ≠ b))) := v_bin hx hy (by
  simp only [vBin, sBin, bytes_beq]
  by_cases hab : a = b <;> simp [hab])
theorem v_addS {a b : ByteArray} (hx : aEval T x = sv a) (hy : aEval T y = sv b) (hl : a.size + b.size ≤ 9223372036854775807) : aval h (aEval T) (.bin .add x y) = some (sv (a ++ b)) := v_bin hx hy (by simp only [vBin, sBin, if_pos hl])
theorem v_eqb {neg a b : Bool} (hx : aEval T x = bv a) (hy : aEval T y = bv b) : aval h (aEval T) (.eqb neg x y) = some (bv (bif neg then !(a == b) else a == b)) := by simp only [aval, hx, hy]
theorem v_eqs {neg b : Bool} {ks : List LK} {cs ds : List AV} (hx : aEval T x = .agg cs) (hy : aEval T y = .agg ds) (he : eqCells ks cs ds = some b) : aval h (aEval T) (.eqs neg ks x y) = some (bv (bif neg then !b else b)) := by simp only [aval, hx, hy, he, Option.map_some]
theorem v_neg {a : Int} (hx : aEval T x = iv a) (h1 : -9223372036854775807 ≤ a) (h2 : a ≤ 9223372036854775807) : aval h (aEval T) (.un .neg x) = some (iv (-a)) := by simp only [aval, hx, Int.zero_sub, w64 (show -9223372036854775808 ≤ -a by omega) (show -a ≤ 9223372036854775807 by omega)]
theorem v_not {p : Prop} [Decidable p] (hx : aEval T x = bv (decide p)) : aval h (aEval T) (.un .not x) = some (bv (decide (¬ p))) := by
  simp only [aval, hx]
  by_cases hp : p <;> simp [hp]
theorem v_cvi {a : Int} {k k' : IntKind} (hx : aEval T x = .v (.int k' a)) : aval h (aEval T) (.cvi k x) = some (.v (.int k (k.wrap a))) := by simp only [aval, hx]
theorem v_cvi64 {a : Int} {k' : IntKind} (hx : aEval T x = .v (.int k' a)) (h1 : -9223372036854775808 ≤ a) (h2 : a ≤ 9223372036854775807) : aval h (aEval T) (.cvi .i64 x) = some (iv a) := by simp only [aval, hx, w64 h1 h2]
theorem v_cvs {s : ByteArray} (hx : aEval T x = sv s) : aval h (aEval T) (.cvs x) = some (sv s) := by simp only [aval, hx]
theorem v_ix {s : ByteArray} {j : Int} {k : IntKind} (hx : aEval T x = sv s) (hi : aEval T i = .v (.int k j)) (h0 : 0 ≤ j) (h1 : j < s.size) : aval h (aEval T) (.ix x i) = some (.v (.int .u8 (byteAt s j.toNat).toNat)) := by simp only [aval, hx, hi, if_pos (And.intro h0 h1)]
theorem v_ext {n : Nat} {l : List AV} (hx : aEval T x = .tup l) (hl : l[n]? = some c) : aval h (aEval T) (.ext x n) = some c := by simp only [aval, hx, hl]
theorem v_lenS {s : ByteArray} (hx : aEval T x = sv s) : aval h (aEval T) (.len true x) = some (iv s.size) := by simp only [aval, hx]
theorem v_lenL {n st : Nat} {full : Bool} {cs : List AV} (hx : aEval T x = .sl n st full cs) : aval h (aEval T) (.len false x) = some (iv n) := by simp only [aval, hx]
theorem v_lenO {id v n : Nat} (hx : aEval T x = .own id v n) : aval h (aEval T) (.len false x) = some (iv n) := by simp only [aval, hx]
theorem v_ia {st n : Nat} {full : Bool} {cs ds : List AV} {j : Int} {k : IntKind} (hx : aEval T x = .sl n st full cs) (hi : aEval T i = .v (.int k j)) (hst : 0 < st) (h0 : 0 ≤ j) (h1 : j < n) (hd : (cs.drop (j.toNat * st)).take st = ds) : aval h (aEval T) (.ia st x i) = some (.rp ds) := by
  simp [aval, hx, hi, hst, h0, h1, hd]
theorem v_iaO {st n id v ty : Nat} {cells : List AV} {j : Int} {k : IntKind} (hx : aEval T x = .own id v n) (hi : aEval T i = .v (.int k j)) (he : h[id]? = some (.mk v ty st cells)) (hst : 0 < st) (h0 : 0 ≤ j) (h1 : j < n) (hl : n * st ≤ cells.length) : aval h (aEval T) (.ia st x i) = some (.ptr id v (j.toNat * st)) := by
  simp [aval, hx, hi, he, hst, h0, h1, hl]
theorem v_build {zero cs : List AV} {ps : List (Nat × Nat × Operand)} (hf : fillAV (aEval T) ps zero = some cs) : aval h (aEval T) (.build zero ps) = some (.agg cs) := by simp only [aval, hf, Option.map_some]
theorem v_sls {s : ByteArray} {lo hi : Option Operand} {l u : Int} (hx : aEval T x = sv s) (hl : optInt (aEval T) 0 lo = some l) (hh : optInt (aEval T) s.size hi = some u) (h0 : 0 ≤ l) (h1 : l ≤ u) (h2 : u ≤ s.size) : aval h (aEval T) (.sls x lo hi) = some (sv (s.extract l.toNat u.toNat)) := by
  simp only [aval, hx, hl, hh, if_pos (And.intro h0 (And.intro h1 h2))]
theorem v_slc {n st : Nat} {full : Bool} {cs : List AV} {lo hi : Option Operand} {l u : Int} (hx : aEval T x = .sl n st full cs) (hl : optInt (aEval T) 0 lo = some l) (hh : optInt (aEval T) n hi = some u) (h0 : 0 ≤ l) (h1 : l ≤ u) (h2 : u ≤ n) :
    aval h (aEval T) (.slc st x lo hi none) = some (.sl (u.toNat - l.toNat) st (full && decide (u = n)) ((cs.drop (l.toNat * st)).take ((u.toNat - l.toNat) * st))) := by
  simp [aval, hx, hl, hh, h0, h1, h2]
theorem v_mkif {t : Nat} {a : Value} (hx : aEval T x = .v a) : aval h (aEval T) (.mkif t x) = some (.v (.iface t a)) := by simp only [aval, hx]
theorem v_mkfn {f : Nat} {caps : List Operand} {cs : List AV} (hc : caps.map (aEval T) = cs) : aval h (aEval T) (.mkfn f caps) = some (.clo (.func f) cs) := by simp only [aval, hc]
theorem v_cap {n st : Nat} {cs : List AV} (hx : aEval T x = .sl n st true cs) : aval h (aEval T) (.cap x) = some (iv n) := by simp only [aval, hx]
theorem v_mm {m : Bool} {k k' : IntKind} {a b : Int} (hx : aEval T x = .v (.int k a)) (hy : aEval T y = .v (.int k' b)) : aval h (aEval T) (.mm m x y) = some (.v (.int k (bif m then (if b > a then b else a) else (if b < a then b else a)))) := by simp only [aval, hx, hy]
end vals

section effs
variable {h h' : AH} {T : List AV} {x y : Operand} {c : AV}
theorem e_new {ty sz id : Nat} {z : List AV} (hl : h.length = id) (hh : h ++ [.mk 0 ty sz z] = h') : aeff h (aEval T) (.new ty sz z) = some (.ptr id 0 0, h') := by subst hl hh; rfl
theorem e_box {ty sz id : Nat} {cs : List AV} (hc : cellsV (aEval T x) = some cs) (hs : cs.length = sz) (hl : h.length = id) (hh : h ++ [.mk 0 ty sz cs] = h') : aeff h (aEval T) (.box ty sz x) = some (.ptr id 0 0, h') := by
  subst hl hh; simp only [aeff, hc, if_pos hs]
theorem e_lit {ty st len id : Nat} {zero cs : List AV} {ps : List (Nat × Nat × Operand)} (hf : fillAV (aEval T) ps zero = some cs) (hl : h.length = id) (hh : h ++ [.mk 0 ty st cs] = h') : aeff h (aEval T) (.lit ty st len zero ps) = some (.own id 0 len, h') := by
  subst hl hh; simp only [aeff, hf]
theorem e_store {sz id v o ty s : Nat} {cells cs cells' : List AV} (hp : aEval T x = .ptr id v o) (hc : cellsV (aEval T y) = some cs) (he : h[id]? = some (.mk v ty s cells)) (hs : cs.length = sz) (hle : o + sz ≤ cells.length) (hlf : cs.all leaf = true) (hst : setCells cells o cs = cells') (hh : h.set id (.mk v ty s cells') = h') :
    aeff h (aEval T) (.store sz x y) = some (.v undef, h') := by
  subst hst hh; simp only [aeff, hp, hc, he]; rw [if_pos ⟨trivial, hs, hle, hlf⟩]
theorem e_app {ty sz bytes id v n m : Nat} {cells news : List AV} (hx : srcCells h sz (aEval T y) = some (m, news)) (hs : aEval T x = .own id v n) (he : h[id]? = some (.mk v ty sz cells)) (hl : cells.length = n * sz) (hb : (n + m) * bytes ≤ 140737488355328) (hlf : news.all leaf = true) (hh : h.set id (.mk (v + 1) ty sz (cells ++ news)) = h') :
    aeff h (aEval T) (.app ty sz bytes x y) = some (.own id (v + 1) (n + m), h') := by
  subst hh; simp only [aeff, hx, hs, he]; rw [if_pos ⟨trivial, trivial, trivial, hl, hb, hlf⟩]
theorem e_appz {ty sz bytes id st : Nat} {cs : List AV} {k : Int} {kd : IntKind} (hs : aEval T x = .sl 0 st true cs) (hy : aEval T y = .v (.int kd k)) (h0 : 0 < k) (hz : 0 < sz) (hb0 : 0 < bytes) (hb : k * bytes ≤ 140737488355328) (hl : h.length = id) (hh : h ++ [.mk 0 ty sz []] = h') :
    aeff h (aEval T) (.appz ty sz bytes x y) = some (.own id 0 k.toNat, h') := by
  subst hl hh; simp only [aeff, hs, hy, if_pos (And.intro h0 (And.intro hz (And.intro hb0 hb)))]
theorem e_app0 {ty sz bytes id m st : Nat} {news cs : List AV} (hx : srcCells h sz (aEval T y) = some (m, news)) (hs : aEval T x = .sl 0 st true cs) (hb : m * bytes ≤ 140737488355328) (hlf : news.all leaf = true) (hl : h.length = id) (hh : h ++ [.mk 0 ty sz news] = h') :
    aeff h (aEval T) (.app ty sz bytes x y) = some (.own id 0 m, h') := by
  subst hl hh; simp only [aeff, hx, hs, if_pos (And.intro hb hlf)]
theorem l_new {ty sz id : Nat} {z : List AV} : aallo id (aEval T) (.new ty sz z) = some (.ptr id 0 0, .mk 0 ty sz z) := rfl
theorem l_box {ty sz id : Nat} {cs : List AV} (hc : cellsV (aEval T x) = some cs) (hs : cs.length = sz) : aallo id (aEval T) (.box ty sz x) = some (.ptr id 0 0, .mk 0 ty sz cs) := by simp only [aallo, hc, if_pos hs]
theorem l_litI {ty st len id : Nat} {zero cs : List AV} {ps : List (Nat × Nat × Operand)} (hf : fillAV (aEval T) ps zero = some cs) (hl : cs.length = len * st) : aalloI id (aEval T) (.lit ty st len zero ps) = some (.sl len st false cs, .gone) := by simp only [aalloI, hf, if_pos hl]
theorem l_lit {ty st len id : Nat} {zero cs : List AV} {ps : List (Nat × Nat × Operand)} (hf : fillAV (aEval T) ps zero = some cs) : aallo id (aEval T) (.lit ty st len zero ps) = some (.own id 0 len, .mk 0 ty st cs) := by simp only [aallo, hf]
end effs

section code
variable {Q : AX → List AV → AH → Prop} {T : List AV} {h : AH} {a b : AC}
theorem w_reg {al : List AOper} (hr : arun P (fun c T h => Q (.pan c) T h) al T h (fun T h => Q .normal T h)) : aw P n0 (.reg al) Q T h := hr
theorem w_drw {bl tl : List AOper} {q : List Bool} {rs : List Nat} (hr : adrun P rs h bl T [] fun T ents => arunK P rs q tl T (h ++ ents) (fun T h => Q .normal T h)) : aw P n0 (.drw bl q tl) Q T h := ⟨rs, hr⟩
theorem w_seq (hr : aw P n0 a (AX.thn (fun T h => ∃ T1 h1, ALe n0 T h T1 h1 ∧ aw P n0 b Q T1 h1) Q) T h) : aw P n0 (.seq a b) Q T h := hr
theorem w_block {id : Nat} (hr : aw P n0 a (AX.blk id Q) T h) : aw P n0 (.block id a) Q T h := hr
theorem w_cond {c : Operand} {p : Prop} [Decidable p] (hc : aEval T c = bv (decide p)) (hy : p → aw P n0 a Q T h) (hn : ¬ p → aw P n0 b Q T h) : aw P n0 (.cond c a b) Q T h := by
  simp only [aw, hc]
  exact ⟨fun e => hy (of_decide_eq_true e), fun e => hn (of_decide_eq_false e)⟩
theorem w_condT {c : Operand} (hc : aEval T c = bv true) (hy : aw P n0 a Q T h) : aw P n0 (.cond c a b) Q T h := by
  simp only [aw, hc]
  exact ⟨fun _ => hy, fun e => (by cases e)⟩
theorem w_condF {c : Operand} (hc : aEval T c = bv false) (hn : aw P n0 b Q T h) : aw P n0 (.cond c a b) Q T h := by
  simp only [aw, hc]
  exact ⟨fun e => (by cases e), fun _ => hn⟩
theorem w_ret {rs : List AR} {R : AE → AH → Prop} {c : AV} (hr : aRes rs T h = some c) (hR : R (.ret c) h) : retA rs R .ret T h := by simp only [retA, hr]; exact hR
theorem w_end {rs : List AR} {R : AE → AH → Prop} {c : AV} (hr : aRes rs T h = some c) (hR : R (.ret c) h) : retA rs R .normal T h := by simp only [retA, hr]; exact hR
end code

end
section
variable {a0 a1 a2 a3 a4 a5 a6 a7 a8 a9 a10 a11 a12 a13 a14 a15 a16 a17 a18 a19 a20 a21 a22 a23 a24 a25 a26 a27 a28 a29 a30 a31 a32 a33 a34 a35 a36 a37 a38 a39 a40 a41 a42 a43 a44 a45 a46 a47 a48 a49 a50 a51 a52 a53 a54 a55 a56 a57 a58 a59 a60 a61 a62 a63 a64 a65 a66 a67 a68 a69 c d : AV} {l m : List AV}
theorem lk0 : aEval (a0::l) (.tmp 0) = a0 := rfl
theorem pt0 : aPut (a0::l) (some 0) c = c::l := rfl
theorem gt0 : (a0::l)[0]? = some a0 := rfl
theorem lk1 : aEval (a0::a1::l) (.tmp 1) = a1 := rfl
theorem pt1 : aPut (a0::a1::l) (some 1) c = a0::c::l := rfl
theorem gt1 : (a0::a1::l)[1]? = some a1 := rfl
theorem lk2 : aEval (a0::a1::a2::l) (.tmp 2) = a2 := rfl
theorem pt2 : aPut (a0::a1::a2::l) (some 2) c = a0::a1::c::l := rfl
theorem gt2 : (a0::a1::a2::l)[2]? = some a2 := rfl
theorem lk3 : aEval (a0::a1::a2::a3::l) (.tmp 3) = a3 := rfl
theorem pt3 : aPut (a0::a1::a2::a3::l) (some 3) c = a0::a1::a2::c::l := rfl
theorem gt3 : (a0::a1::a2::a3::l)[3]? = some a3 := rfl
theorem lk4 : aEval (a0::a1::a2::a3::a4::l) (.tmp 4) = a4 := rfl
theorem pt4 : aPut (a0::a1::a2::a3::a4::l) (some 4) c = a0::a1::a2::a3::c::l := rfl
theorem gt4 : (a0::a1::a2::a3::a4::l)[4]? = some a4 := rfl
theorem lk5 : aEval (a0::a1::a2::a3::a4::a5::l) (.tmp 5) = a5 := rfl
theorem pt5 : aPut (a0::a1::a2::a3::a4::a5::l) (some 5) c = a0::a1::a2::a3::a4::c::l := rfl
theorem gt5 : (a0::a1::a2::a3::a4::a5::l)[5]? = some a5 := rfl
theorem lk6 : aEval (a0::a1::a2::a3::a4::a5::a6::l) (.tmp 6) = a6 := rfl
theorem pt6 : aPut (a0::a1::a2::a3::a4::a5::a6::l) (some 6) c = a0::a1::a2::a3::a4::a5::c::l := rfl
theorem gt6 : (a0::a1::a2::a3::a4::a5::a6::l)[6]? = some a6 := rfl
theorem lk7 : aEval (a0::a1::a2::a3::a4::a5::a6::a7::l) (.tmp 7) = a7 := rfl
theorem pt7 : aPut (a0::a1::a2::a3::a4::a5::a6::a7::l) (some 7) c = a0::a1::a2::a3::a4::a5::a6::c::l := rfl
theorem gt7 : (a0::a1::a2::a3::a4::a5::a6::a7::l)[7]? = some a7 := rfl
theorem lk8 : aEval (a0::a1::a2::a3::a4::a5::a6::a7::a8::l) (.tmp 8) = a8 := rfl
theorem pt8 : aPut (a0::a1::a2::a3::a4::a5::a6::a7::a8::l) (some 8) c = a0::a1::a2::a3::a4::a5::a6::a7::c::l := rfl
theorem gt8 : (a0::a1::a2::a3::a4::a5::a6::a7::a8::l)[8]? = some a8 := rfl
theorem lk9 : aEval (a0::a1::a2::a3::a4::a5::a6::a7::a8::a9::l) (.tmp 9) = a9 := rfl
theorem pt9 : aPut (a0::a1::a2::a3::a4::a5::a6::a7::a8::a9::l) (some 9) c = a0::a1::a2::a3::a4::a5::a6::a7::a8::c::l := rfl
theorem gt9 : (a0::a1::a2::a3::a4::a5::a6::a7::a8::a9::l)[9]? = some a9 := rfl
theorem lk10 : aEval (a0::a1::a2::a3::a4::a5::a6::a7::a8::a9::a10::l) (.tmp 10) = a10 := rfl
theorem pt10 : aPut (a0::a1::a2::a3::a4::a5::a6::a7::a8::a9::a10::l) (some 10) c = a0::a1::a2::a3::a4::a5::a6::a7::a8::a9::c::l := rfl
theorem gt10 : (a0::a1::a2::a3::a4::a5::a6::a7::a8::a9::a10::l)[10]? = some a10 := rfl
theorem lk11 : aEval (a0::a1::a2::a3::a4::a5::a6::a7::a8::a9::a10::a11::l) (.tmp 11) = a11 := rfl
theorem pt11 : aPut (a0::a1::a2::a3::a4::a5::a6::a7::a8::a9::a10::a11::l) (some 11) c = a0::a1::a2::a3::a4::a5::a6::a7::a8::a9::a10::c::l := rfl
theorem gt11 : (a0::a1::a2::a3::a4::a5::a6::a7::a8::a9::a10::a11::l)[11]? = some a11 := rfl
theorem lk12 : aEval (a0::a1::a2::a3::a4::a5::a6::a7::a8::a9::a10::a11::a12::l) (.tmp 12) = a12 := rfl
theorem pt12 : aPut (a0::a1::a2::a3::a4::a5::a6::a7::a8::a9::a10::a11::a12::l) (some 12) c = a0::a1::a2::a3::a4::a5::a6::a7::a8::a9::a10::a11::c::l := rfl
theorem gt12 : (a0::a1::a2::a3::a4::a5::a6::a7::a8::a9::a10::a11::a12::l)[12]? = some a12 := rfl
theorem lk13 : aEval (a0::a1::a2::a3::a4::a5::a6::a7::a8::a9::a10::a11::a12::a13::l) (.tmp 13) = a13 := rfl
theorem pt13 : aPut (a0::a1::a2::a3::a4::a5::a6::a7::a8::a9::a10::a11::a12::a13::l) (some 13) c = a0::a1::a2::a3::a4::a5::a6::a7::a8::a9::a10::a11::a12::c::l := rfl
theorem gt13 : (a0::a1::a2::a3::a4::a5::a6::a7::a8::a9::a10::a11::a12::a13::l)[13]? = some a13 := rfl
theorem lk14 : aEval (a0::a1::a2::a3::a4::a5::a6::a7::a8::a9::a10::a11::a12::a13::a14::l) (.tmp 14) = a14 := rfl
theorem pt14 : aPut (a0::a1::a2::a3::a4::a5::a6::a7::a8::a9::a10::a11::a12::a13::a14::l) (some 14) c = a0::a1::a2::a3::a4::a5::a6::a7::a8::a9::a10::a11::a12::a13::c::l := rfl
theorem gt14 : (a0::a1::a2::a3::a4::a5::a6::a7::a8::a9::a10::a11::a12::a13::a14::l)[14]? = some a14 := rfl
theorem lk15 : aEval (a0::a1::a2::a3::a4::a5::a6::a7::a8::a9::a10::a11::a12::a13::a14::a15::l) (.tmp 15) = a15 := rfl
theorem pt15 : aPut (a0::a1::a2::a3::a4::a5::a6::a7::a8::a9::a10::a11::a12::a13::a14::a15::l) (some 15) c = a0::a1::a2::a3::a4::a5::a6::a7::a8::a9::a10::a11::a12::a13::a14::c::l := rfl
theorem gt15 : (a0::a1::a2::a3::a4::a5::a6::a7::a8::a9::a10::a11::a12::a13::a14::a15::l)[15]? = some a15 := rfl
theorem lk16 : aEval (a0::a1::a2::a3::a4::a5::a6::a7::a8::a9::a10::a11::a12::a13::a14::a15::a16::l) (.tmp 16) = a16 := rfl
theorem pt16 : aPut (a0::a1::a2::a3::a4::a5::a6::a7::a8::a9::a10::a11::a12::a13::a14::a15::a16::l) (some 16) c = a0::a1::a2::a3::a4::a5::a6::a7::a8::a9::a10::a11::a12::a13::a14::a15::c::l := rfl
theorem gt16 : (a0::a1::a2::a3::a4::a5::a6::a7::a8::a9::a10::a11::a12::a13::a14::a15::a16::l)[16]? = some a16 := rfl
theorem lk17 : aEval (a0::a1::a2::a3::a4::a5::a6::a7::a8::a9::a10::a11::a12::a13::a14::a15::a16::a17::l) (.tmp 17) = a17 := rfl
theorem pt17 : aPut (a0::a1::a2::a3::a4::a5::a6::a7::a8::a9::a10::a11::a12::a13::a14::a15::a16::a17::l) (some 17) c = a0::a1::a2::a3::a4::a5::a6::a7::a8::a9::a10::a11::a12::a13::a14::a15::a16::c::l := rfl
theorem gt17 : (a0::a1::a2::a3::a4::a5::a6::a7::a8::a9::a10::a11::a12::a13::a14::a15::a16::a17::l)[17]? = some a17 := rfl
theorem lk18 : aEval (a0::a1::a2::a3::a4::a5::a6::a7::a8::a9::a10::a11::a12::a13::a14::a15::a16::a17::a18::l) (.tmp 18) = a18 := rfl
theorem pt18 : aPut (a0::a1::a2::a3::a4::a5::a6::a7::a8::a9::a10::a11::a12::a13::a14::a15::a16::a17::a18::l) (some 18) c = a0::a1::a2::a3::a4::a5::a6::a7::a8::a9::a10::a11::a12::a13::a14::a15::a16::a17::c::l := rfl
theorem gt18 : (a0::a1::a2::a3::a4::a5::a6::a7::a8::a9::a10::a11::a12::a13::a14::a15::a16::a17::a18::l)[18]? = some a18 := rfl
theorem lk19 : aEval (a0::a1::a2::a3::a4::a5::a6::a7::a8::a9::a10::a11::a12::a13::a14::a15::a16::a17::a18::a19::l) (.tmp 19) = a19 := rfl
theorem pt19 : aPut (a0::a1::a2::a3::a4::a5::a6::a7::a8::a9::a10::a11::a12::a13::a14::a15::a16::a17::a18::a19::l) (some 19) c = a0::a1::a2::a3::a4::a5::a6::a7::a8::a9::a10::a11::a12::a13::a14::a15::a16::a17::a18::c::l := rfl
theorem gt19 : (a0::a1::a2::a3::a4::a5::a6::a7::a8::a9::a10::a11::a12::a13::a14::a15::a16::a17::a18::a19::l)[19]? = some a19 := rfl
theorem lk20 : aEval (a0::a1::a2::a3::a4::a5::a6::a7::a8::a9::a10::a11::a12::a13::a14::a15::a16::a17::a18::a19::a20::l) (.tmp 20) = a20 := rfl
theorem pt20 : aPut (a0::a1::a2::a3::a4::a5::a6::a7::a8::a9::a10::a11::a12::a13::a14::a15::a16::a17::a18::a19::a20::l) (some 20) c = a0::a1::a2::a3::a4::a5::a6::a7::a8::a9::a10::a11::a12::a13::a14::a15::a16::a17::a18::a19::c::l := rfl
theorem gt20 : (a0::a1::a2::a3::a4::a5::a6::a7::a8::a9::a10::a11::a12::a13::a14::a15::a16::a17::a18::a19::a20::l)[20]? = some a20 := rfl
theorem lk21 : aEval (a0::a1::a2::a3::a4::a5::a6::a7::a8::a9::a10::a11::a12::a13::a14::a15::a16::a17::a18::a19::a20::a21::l) (.tmp 21) = a21 := rfl
theorem pt21 : aPut (a0::a1::a2::a3::a4::a5::a6::a7::a8::a9::a10::a11::a12::a13::a14::a15::a16::a17::a18::a19::a20::a21::l) (some 21) c = a0::a1::a2::a3::a4::a5::a6::a7::a8::a9::a10::a11::a12::a13::a14::a15::a16::a17::a18::a19::a20::c::l := rfl
theorem gt21 : (a0::a1::a2::a3::a4::a5::a6::a7::a8::a9::a10::a11::a12::a13::a14::a15::a16::a17::a18::a19::a20::a21::l)[21]? = some a21 := rfl
theorem lk22 : aEval (a0::a1::a2::a3::a4::a5::a6::a7::a8::a9::a10::a11::a12::a13::a14::a15::a16::a17::a18::a19::a20::a21::a22::l) (.tmp 22) = a22 := rfl
theorem pt22 : aPut (a0::a1::a2::a3::a4::a5::a6::a7::a8::a9::a10::a11::a12::a13::a14::a15::a16::a17::a18::a19::a20::a21::a22::l) (some 22) c = a0::a1::a2::a3::a4::a5::a6::a7::a8::a9::a10::a11::a12::a13::a14::a15::a16::a17::a18::a19::a20::a21::c::l := rfl
theorem gt22 : (a0::a1::a2::a3::a4::a5::a6::a7::a8::a9::a10::a11::a12::a13::a14::a15::a16::a17::a18::a19::a20::a21::a22::l)[22]? = some a22 := rfl
theorem lk23 : aEval (a0::a1::a2::a3::a4::a5::a6::a7::a8::a9::a10::a11::a12::a13::a14::a15::a16::a17::a18::a19::a20::a21::a22::a23::l) (.tmp 23) = a23 := rfl
theorem pt23 : aPut (a0::a1::a2::a3::a4::a5::a6::a7::a8::a9::a10::a11::a12::a13::a14::a15::a16::a17::a18::a19::a20::a21::a22::a23::l) (some 23) c = a0::a1::a2::a3::a4::a5::a6::a7::a8::a9::a10::a11::a12::a13::a14::a15::a16::a17::a18::a19::a20::a21::a22::c::l := rfl
theorem gt23 : (a0::a1::a2::a3::a4::a5::a6::a7::a8::a9::a10::a11::a12::a13::a14::a15::a16::a17::a18::a19::a20::a21::a22::a23::l)[23]? = some a23 := rfl
theorem lk24 : aEval (a0::a1::a2::a3::a4::a5::a6::a7::a8::a9::a10::a11::a12::a13::a14::a15::a16::a17::a18::a19::a20::a21::a22::a23::a24::l) (.tmp 24) = a24 := rfl
theorem pt24 : aPut (a0::a1::a2::a3::a4::a5::a6::a7::a8::a9::a10::a11::a12::a13::a14::a15::a16::a17::a18::a19::a20::a21::a22::a23::a24::l) (some 24) c = a0::a1::a2::a3::a4::a5::a6::a7::a8::a9::a10::a11::a12::a13::a14::a15::a16::a17::a18::a19::a20::a21::a22::a23::c::l := rfl
theorem gt24 : (a0::a1::a2::a3::a4::a5::a6::a7::a8::a9::a10::a11::a12::a13::a14::a15::a16::a17::a18::a19::a20::a21::a22::a23::a24::l)[24]? = some a24 := rfl
theorem lk25 : aEval (a0::a1::a2::a3::a4::a5::a6::a7::a8::a9::a10::a11::a12::a13::a14::a15::a16::a17::a18::a19::a20::a21::a22::a23::a24::a25::l) (.tmp 25) = a25 := rfl
theorem pt25 : aPut (a0::a1::a2::a3::a4::a5::a6::a7::a8::a9::a10::a11::a12::a13::a14::a15::a16::a17::a18::a19::a20::a21::a22::a23::a24::a25::l) (some 25) c = a0::a1::a2::a3::a4::a5::a6::a7::a8::a9::a10::a11::a12::a13::a14::a15::a16::a17::a18::a19::a20::a21::a22::a23::a24::c::l := rfl
theorem gt25 : (a0::a1::a2::a3::a4::a5::a6::a7::a8::a9::a10::a11::a12::a13::a14::a15::a16::a17::a18::a19::a20::a21::a22::a23::a24::a25::l)[25]? = some a25 := rfl
theorem lk26 : aEval (a0::a1::a2::a3::a4::a5::a6::a7::a8::a9::a10::a11::a12::a13::a14::a15::a16::a17::a18::a19::a20::a21::a22::a23::a24::a25::a26::l) (.tmp 26) = a26 := rfl
theorem pt26 : aPut (a0::a1::a2::a3::a4::a5::a6::a7::a8::a9::a10::a11::a12::a13::a14::a15::a16::a17::a18::a19::a20::a21::a22::a23::a24::a25::a26::l) (some 26) c = a0::a1::a2::a3::a4::a5::a6::a7::a8::a9::a10::a11::a12::a13::a14::a15::a16::a17::a18::a19::a20::a21::a22::a23::a24::a25::c::l := rfl
theorem gt26 : (a0::a1::a2::a3::a4::a5::a6::a7::a8::a9::a10::a11::a12::a13::a14::a15::a16::a17::a18::a19::a20::a21::a22::a23::a24::a25::a26::l)[26]? = some a26 := rfl
theorem lk27 : aEval (a0::a1::a2::a3::a4::a5::a6::a7::a8::a9::a10::a11::a12::a13::a14::a15::a16::a17::a18::a19::a20::a21::a22::a23::a24::a25::a26::a27::l) (.tmp 27) = a27 := rfl
theorem pt27 : aPut (a0::a1::a2::a3::a4::a5::a6::a7::a8::a9::a10::a11::a12::a13::a14::a15::a16::a17::a18::a19::a20::a21::a22::a23::a24::a25::a26::a27::l) (some 27) c = a0::a1::a2::a3::a4::a5::a6::a7::a8::a9::a10::a11::a12::a13::a14::a15::a16::a17::a18::a19::a20::a21::a22::a23::a24::a25::a26::c::l := rfl
theorem gt27 : (a0::a1::a2::a3::a4::a5::a6::a7::a8::a9::a10::a11::a12::a13::a14::a15::a16::a17::a18::a19::a20::a21::a22::a23::a24::a25::a26::a27::l)[27]? = some a27 := rfl
theorem lk28 : aEval (a0::a1::a2::a3::a4::a5::a6::a7::a8::a9::a10::a11::a12::a13::a14::a15::a16::a17::a18::a19::a20::a21::a22::a23::a24::a25::a26::a27::a28::l) (.tmp 28) = a28 := rfl
theorem pt28 : aPut (a0::a1::a2::a3::a4::a5::a6::a7::a8::a9::a10::a11::a12::a13::a14::a15::a16::a17::a18::a19::a20::a21::a22::a23::a24::a25::a26::a27::a28::l) (some 28) c = a0::a1::a2::a3::a4::a5::a6::a7::a8::a9::a10::a11::a12::a13::a14::a15::a16::a17::a18::a19::a20::a21::a22::a23::a24::a25::a26::a27::c::l := rfl
theorem gt28 : (a0::a1::a2::a3::a4::a5::a6::a7::a8::a9::a10::a11::a12::a13::a14::a15::a16::a17::a18::a19::a20::a21::a22::a23::a24::a25::a26::a27::a28::l)[28]? = some a28 := rfl
theorem lk29 : aEval (a0::a1::a2::a3::a4::a5::a6::a7::a8::a9::a10::a11::a12::a13::a14::a15::a16::a17::a18::a19::a20::a21::a22::a23::a24::a25::a26::a27::a28::a29::l) (.tmp 29) = a29 := rfl
theorem pt29 : aPut (a0::a1::a2::a3::a4::a5::a6::a7::a8::a9::a10::a11::a12::a13::a14::a15::a16::a17::a18::a19::a20::a21::a22::a23::a24::a25::a26::a27::a28::a29::l) (some 29) c = a0::a1::a2::a3::a4::a5::a6::a7::a8::a9::a10::a11::a12::a13::a14::a15::a16::a17::a18::a19::a20::a21::a22::a23::a24::a25::a26::a27::a28::c::l := rfl
theorem gt29 : (a0::a1::a2::a3::a4::a5::a6::a7::a8::a9::a10::a11::a12::a13::a14::a15::a16::a17::a18::a19::a20::a21::a22::a23::a24::a25::a26::a27::a28::a29::l)[29]? = some a29 := rfl
theorem lk30 : aEval (a0::a1::a2::a3::a4::a5::a6::a7::a8::a9::a10::a11::a12::a13::a14::a15::a16::a17::a18::a19::a20::a21::a22::a23::a24::a25::a26::a27::a28::a29::a30::l) (.tmp 30) = a30 := rfl
theorem pt30 : aPut (a0::a1::a2::a3::a4::a5::a6::a7::a8::a9::a10::a11::a12::a13::a14::a15::a16::a17::a18::a19::a20::a21::a22::a23::a24::a25::a26::a27::a28::a29::a30::l) (some 30) c = a0::a1::a2::a3::a4::a5::a6::a7::a8::a9::a10::a11::a12::a13::a14::a15::a16::a17::a18::a19::a20::a21::a22::a23::a24::a25::a26::a27::a28::a29::c::l := rfl
theorem gt30 : (a0::a1::a2::a3::a4::a5::a6::a7::a8::a9::a10::a11::a12::a13::a14::a15::a16::a17::a18::a19::a20::a21::a22::a23::a24::a25::a26::a27::a28::a29::a30::l)[30]? = some a30 := rfl
theorem lk31 : aEval (a0::a1::a2::a3::a4::a5::a6::a7::a8::a9::a10::a11::a12::a13::a14::a15::a16::a17::a18::a19::a20::a21::a22::a23::a24::a25::a26::a27::a28::a29::a30::a31::l) (.tmp 31) = a31 := rfl
theorem pt31 : aPut (a0::a1::a2::a3::a4::a5::a6::a7::a8::a9::a10::a11::a12::a13::a14::a15::a16::a17::a18::a19::a20::a21::a22::a23::a24::a25::a26::a27::a28::a29::a30::a31::l) (some 31) c = a0::a1::a2::a3::a4::a5::a6::a7::a8::a9::a10::a11::a12::a13::a14::a15::a16::a17::a18::a19::a20::a21::a22::a23::a24::a25::a26::a27::a28::a29::a30::c::l := rfl
theorem gt31 : (a0::a1::a2::a3::a4::a5::a6::a7::a8::a9::a10::a11::a12::a13::a14::a15::a16::a17::a18::a19::a20::a21::a22::a23::a24::a25::a26::a27::a28::a29::a30::a31::l)[31]? = some a31 := rfl
theorem lk32 : aEval (a0::a1::a2::a3::a4::a5::a6::a7::a8::a9::a10::a11::a12::a13::a14::a15::a16::a17::a18::a19::a20::a21::a22::a23::a24::a25::a26::a27::a28::a29::a30::a31::a32::l) (.tmp 32) = a32 := rfl
theorem pt32 : aPut (a0::a1::a2::a3::a4::a5::a6::a7::a8::a9::a10::a11::a12::a13::a14::a15::a16::a17::a18::a19::a20::a21::a22::a23::a24::a25::a26::a27::a28::a29::a30::a31::a32::l) (some 32) c = a0::a1::a2::a3::a4::a5::a6::a7::a8::a9::a10::a11::a12::a13::a14::a15::a16::a17::a18::a19::a20::a21::a22::a23::a24::a25::a26::a27::a28::a29::a30::a31::c::l := rfl
theorem gt32 : (a0::a1::a2::a3::a4::a5::a6::a7::a8::a9::a10::a11::a12::a13::a14::a15::a16::a17::a18::a19::a20::a21::a22::a23::a24::a25::a26::a27::a28::a29::a30::a31::a32::l)[32]? = some a32 := rfl
theorem lk33 : aEval (a0::a1::a2::a3::a4::a5::a6::a7::a8::a9::a10::a11::a12::a13::a14::a15::a16::a17::a18::a19::a20::a21::a22::a23::a24::a25::a26::a27::a28::a29::a30::a31::a32::a33::l) (.tmp 33) = a33 := rfl
theorem pt33 : aPut (a0::a1::a2::a3::a4::a5::a6::a7::a8::a9::a10::a11::a12::a13::a14::a15::a16::a17::a18::a19::a20::a21::a22::a23::a24::a25::a26::a27::a28::a29::a30::a31::a32::a33::l) (some 33) c = a0::a1::a2::a3::a4::a5::a6::a7::a8::a9::a10::a11::a12::a13::a14::a15::a16::a17::a18::a19::a20::a21::a22::a23::a24::a25::a26::a27::a28::a29::a30::a31::a32::c::l := rfl
theorem gt33 : (a0::a1::a2::a3::a4::a5::a6::a7::a8::a9::a10::a11::a12::a13::a14::a15::a16::a17::a18::a19::a20::a21::a22::a23::a24::a25::a26::a27::a28::a29::a30::a31::a32::a33::l)[33]? = some a33 := rfl
theorem lk34 : aEval (a0::a1::a2::a3::a4::a5::a6::a7::a8::a9::a10::a11::a12::a13::a14::a15::a16::a17::a18::a19::a20::a21::a22::a23::a24::a25::a26::a27::a28::a29::a30::a31::a32::a33::a34::l) (.tmp 34) = a34 := rfl
theorem pt34 : aPut (a0::a1::a2::a3::a4::a5::a6::a7::a8::a9::a10::a11::a12::a13::a14::a15::a16::a17::a18::a19::a20::a21::a22::a23::a24::a25::a26::a27::a28::a29::a30::a31::a32::a33::a34::l) (some 34) c = a0::a1::a2::a3::a4::a5::a6::a7::a8::a9::a10::a11::a12::a13::a14::a15::a16::a17::a18::a19::a20::a21::a22::a23::a24::a25::a26::a27::a28::a29::a30::a31::a32::a33::c::l := rfl
theorem gt34 : (a0::a1::a2::a3::a4::a5::a6::a7::a8::a9::a10::a11::a12::a13::a14::a15::a16::a17::a18::a19::a20::a21::a22::a23::a24::a25::a26::a27::a28::a29::a30::a31::a32::a33::a34::l)[34]? = some a34 := rfl
theorem lk35 : aEval (a0::a1::a2::a3::a4::a5::a6::a7::a8::a9::a10::a11::a12::a13::a14::a15::a16::a17::a18::a19::a20::a21::a22::a23::a24::a25::a26::a27::a28::a29::a30::a31::a32::a33::a34::a35::l) (.tmp 35) = a35 := rfl
theorem pt35 : aPut (a0::a1::a2::a3::a4::a5::a6::a7::a8::a9::a10::a11::a12::a13::a14::a15::a16::a17::a18::a19::a20::a21::a22::a23::a24::a25::a26::a27::a28::a29::a30::a31::a32::a33::a34::a35::l) (some 35) c = a0::a1::a2::a3::a4::a5::a6::a7::a8::a9::a10::a11::a12::a13::a14::a15::a16::a17::a18::a19::a20::a21::a22::a23::a24::a25::a26::a27::a28::a29::a30::a31::a32::a33::a34::c::l := rfl
theorem gt35 : (a0::a1::a2::a3::a4::a5::a6::a7::a8::a9::a10::a11::a12::a13::a14::a15::a16::a17::a18::a19::a20::a21::a22::a23::a24::a25::a26::a27::a28::a29::a30::a31::a32::a33::a34::a35::l)[35]? = some a35 := rfl
theorem lk36 : aEval (a0::a1::a2::a3::a4::a5::a6::a7::a8::a9::a10::a11::a12::a13::a14::a15::a16::a17::a18::a19::a20::a21::a22::a23::a24::a25::a26::a27::a28::a29::a30::a31::a32::a33::a34::a35::a36::l) (.tmp 36) = a36 := rfl
theorem pt36 : aPut (a0::a1::a2::a3::a4::a5::a6::a7::a8::a9::a10::a11::a12::a13::a14::a15::a16::a17::a18::a19::a20::a21::a22::a23::a24::a25::a26::a27::a28::a29::a30::a31::a32::a33::a34::a35::a36::l) (some 36) c = a0::a1::a2::a3::a4::a5::a6::a7::a8::a9::a10::a11::a12::a13::a14::a15::a16::a17::a18::a19::a20::a21::a22::a23::a24::a25::a26::a27::a28::a29::a30::a31::a32::a33::a34::a35::c::l := rfl
theorem gt36 : (a0::a1::a2::a3::a4::a5::a6::a7::a8::a9::a10::a11::a12::a13::a14::a15::a16::a17::a18::a19::a20::a21::a22::a23::a24::a25::a26::a27::a28::a29::a30::a31::a32::a33::a34::a35::a36::l)[36]? = some a36 := rfl
theorem lk37 : aEval (a0::a1::a2::a3::a4::a5::a6::a7::a8::a9::a10::a11::a12::a13::a14::a15::a16::a17::a18::a19::a20::a21::a22::a23::a24::a25::a26::a27::a28::a29::a30::a31::a32::a33::a34::a35::a36::a37::l) (.tmp 37) = a37 := rfl
theorem pt37 : aPut (a0::a1::a2::a3::a4::a5::a6::a7::a8::a9::a10::a11::a12::a13::a14::a15::a16::a17::a18::a19::a20::a21::a22::a23::a24::a25::a26::a27::a28::a29::a30::a31::a32::a33::a34::a35::a36::a37::l) (some 37) c = a0::a1::a2::a3::a4::a5::a6::a7::a8::a9::a10::a11::a12::a13::a14::a15::a16::a17::a18::a19::a20::a21::a22::a23::a24::a25::a26::a27::a28::a29::a30::a31::a32::a33::a34::a35::a36::c::l := rfl
theorem gt37 : (a0::a1::a2::a3::a4::a5::a6::a7::a8::a9::a10::a11::a12::a13::a14::a15::a16::a17::a18::a19::a20::a21::a22::a23::a24::a25::a26::a27::a28::a29::a30::a31::a32::a33::a34::a35::a36::a37::l)[37]? = some a37 := rfl
theorem lk38 : aEval (a0::a1::a2::a3::a4::a5::a6::a7::a8::a9::a10::a11::a12::a13::a14::a15::a16::a17::a18::a19::a20::a21::a22::a23::a24::a25::a26::a27::a28::a29::a30::a31::a32::a33::a34::a35::a36::a37::a38::l) (.tmp 38) = a38 := rfl
theorem pt38 : aPut (a0::a1::a2::a3::a4::a5::a6::a7::a8::a9::a10::a11::a12::a13::a14::a15::a16::a17::a18::a19::a20::a21::a22::a23::a24::a25::a26::a27::a28::a29::a30::a31::a32::a33::a34::a35::a36::a37::a38::l) (some 38) c = a0::a1::a2::a3::a4::a5::a6::a7::a8::a9::a10::a11::a12::a13::a14::a15::a16::a17::a18::a19::a20::a21::a22::a23::a24::a25::a26::a27::a28::a29::a30::a31::a32::a33::a34::a35::a36::a37::c::l := rfl
theorem gt38 : (a0::a1::a2::a3::a4::a5::a6::a7::a8::a9::a10::a11::a12::a13::a14::a15::a16::a17::a18::a19::a20::a21::a22::a23::a24::a25::a26::a27::a28::a29::a30::a31::a32::a33::a34::a35::a36::a37::a38::l)[38]? = some a38 := rfl
theorem lk39 : aEval (a0::a1::a2::a3::a4::a5::a6::a7::a8::a9::a10::a11::a12::a13::a14::a15::a16::a17::a18::a19::a20::a21::a22::a23::a24::a25::a26::a27::a28::a29::a30::a31::a32::a33::a34::a35::a36::a37::a38::a39::l) (.tmp 39) = a39 := rfl
theorem pt39 : aPut (a0::a1::a2::a3::a4::a5::a6::a7::a8::a9::a10::a11::a12::a13::a14::a15::a16::a17::a18::a19::a20::a21::a22::a23::a24::a25::a26::a27::a28::a29::a30::a31::a32::a33::a34::a35::a36::a37::a38::a39::l) (some 39) c = a0::a1::a2::a3::a4::a5::a6::a7::a8::a9::a10::a11::a12::a13::a14::a15::a16::a17::a18::a19::a20::a21::a22::a23::a24::a25::a26::a27::a28::a29::a30::a31::a32::a33::a34::a35::a36::a37::a38::c::l := rfl
theorem gt39 : (a0::a1::a2::a3::a4::a5::a6::a7::a8::a9::a10::a11::a12::a13::a14::a15::a16::a17::a18::a19::a20::a21::a22::a23::a24::a25::a26::a27::a28::a29::a30::a31::a32::a33::a34::a35::a36::a37::a38::a39::l)[39]? = some a39 := rfl
theorem lk40 : aEval (a0::a1::a2::a3::a4::a5::a6::a7::a8::a9::a10::a11::a12::a13::a14::a15::a16::a17::a18::a19::a20::a21::a22::a23::a24::a25::a26::a27::a28::a29::a30::a31::a32::a33::a34::a35::a36::a37::a38::a39::a40::l) (.tmp 40) = a40 := rfl
theorem pt40 : aPut (a0::a1::a2::a3::a4::a5::a6::a7::a8::a9::a10::a11::a12::a13::a14::a15::a16::a17::a18::a19::a20::a21::a22::a23::a24::a25::a26::a27::a28::a29::a30::a31::a32::a33::a34::a35::a36::a37::a38::a39::a40::l) (some 40) c = a0::a1::a2::a3::a4::a5::a6::a7::a8::a9::a10::a11::a12::a13::a14::a15::a16::a17::a18::a19::a20::a21::a22::a23::a24::a25::a26::a27::a28::a29::a30::a31::a32::a33::a34::a35::a36::a37::a38::a39::c::l := rfl
theorem gt40 : (a0::a1::a2::a3::a4::a5::a6::a7::a8::a9::a10::a11::a12::a13::a14::a15::a16::a17::a18::a19::a20::a21::a22::a23::a24::a25::a26::a27::a28::a29::a30::a31::a32::a33::a34::a35::a36::a37::a38::a39::a40::l)[40]? = some a40 := rfl
theorem lk41 : aEval (a0::a1::a2::a3::a4::a5::a6::a7::a8::a9::a10::a11::a12::a13::a14::a15::a16::a17::a18::a19::a20::a21::a22::a23::a24::a25::a26::a27::a28::a29::a30::a31::a32::a33::a34::a35::a36::a37::a38::a39::a40::a41::l) (.tmp 41) = a41 := rfl
theorem pt41 : aPut (a0::a1::a2::a3::a4::a5::a6::a7::a8::a9::a10::a11::a12::a13::a14::a15::a16::a17::a18::a19::a20::a21::a22::a23::a24::a25::a26::a27::a28::a29::a30::a31::a32::a33::a34::a35::a36::a37::a38::a39::a40::a41::l) (some 41) c = a0::a1::a2::a3::a4::a5::a6::a7::a8::a9::a10::a11::a12::a13::a14::a15::a16::a17::a18::a19::a20::a21::a22::a23::a24::a25::a26::a27::a28::a29::a30::a31::a32::a33::a34::a35::a36::a37::a38::a39::a40::c::l := rfl
theorem gt41 : (a0::a1::a2::a3::a4::a5::a6::a7::a8::a9::a10::a11::a12::a13::a14::a15::a16::a17::a18::a19::a20::a21::a22::a23::a24::a25::a26::a27::a28::a29::a30::a31::a32::a33::a34::a35::a36::a37::a38::a39::a40::a41::l)[41]? = some a41 := rfl
theorem lk42 : aEval (a0::a1::a2::a3::a4::a5::a6::a7::a8::a9::a10::a11::a12::a13::a14::a15::a16::a17::a18::a19::a20::a21::a22::a23::a24::a25::a26::a27::a28::a29::a30::a31::a32::a33::a34::a35::a36::a37::a38::a39::a40::a41::a42::l) (.tmp 42) = a42 := rfl
theorem pt42 : aPut (a0::a1::a2::a3::a4::a5::a6::a7::a8::a9::a10::a11::a12::a13::a14::a15::a16::a17::a18::a19::a20::a21::a22::a23::a24::a25::a26::a27::a28::a29::a30::a31::a32::a33::a34::a35::a36::a37::a38::a39::a40::a41::a42::l) (some 42) c = a0::a1::a2::a3::a4::a5::a6::a7::a8::a9::a10::a11::a12::a13::a14::a15::a16::a17::a18::a19::a20::a21::a22::a23::a24::a25::a26::a27::a28::a29::a30::a31::a32::a33::a34::a35::a36::a37::a38::a39::a40::a41::c::l := rfl
theorem gt42 : (a0::a1::a2::a3::a4::a5::a6::a7::a8::a9::a10::a11::a12::a13::a14::a15::a16::a17::a18::a19::a20::a21::a22::a23::a24::a25::a26::a27::a28::a29::a30::a31::a32::a33::a34::a35::a36::a37::a38::a39::a40::a41::a42::l)[42]? = some a42 := rfl
theorem lk43 : aEval (a0::a1::a2::a3::a4::a5::a6::a7::a8::a9::a10::a11::a12::a13::a14::a15::a16::a17::a18::a19::a20::a21::a22::a23::a24::a25::a26::a27::a28::a29::a30::a31::a32::a33::a34::a35::a36::a37::a38::a39::a40::a41::a42::a43::l) (.tmp 43) = a43 := rfl
theorem pt43 : aPut (a0::a1::a2::a3::a4::a5::a6::a7::a8::a9::a10::a11::a12::a13::a14::a15::a16::a17::a18::a19::a20::a21::a22::a23::a24::a25::a26::a27::a28::a29::a30::a31::a32::a33::a34::a35::a36::a37::a38::a39::a40::a41::a42::a43::l) (some 43) c = a0::a1::a2::a3::a4::a5::a6::a7::a8::a9::a10::a11::a12::a13::a14::a15::a16::a17::a18::a19::a20::a21::a22::a23::a24::a25::a26::a27::a28::a29::a30::a31::a32::a33::a34::a35::a36::a37::a38::a39::a40::a41::a42::c::l := rfl
theorem gt43 : (a0::a1::a2::a3::a4::a5::a6::a7::a8::a9::a10::a11::a12::a13::a14::a15::a16::a17::a18::a19::a20::a21::a22::a23::a24::a25::a26::a27::a28::a29::a30::a31::a32::a33::a34::a35::a36::a37::a38::a39::a40::a41::a42::a43::l)[43]? = some a43 := rfl
theorem lk44 : aEval (a0::a1::a2::a3::a4::a5::a6::a7::a8::a9::a10::a11::a12::a13::a14::a15::a16::a17::a18::a19::a20::a21::a22::a23::a24::a25::a26::a27::a28::a29::a30::a31::a32::a33::a34::a35::a36::a37::a38::a39::a40::a41::a42::a43::a44::l) (.tmp 44) = a44 := rfl
theorem pt44 : aPut (a0::a1::a2::a3::a4::a5::a6::a7::a8::a9::a10::a11::a12::a13::a14::a15::a16::a17::a18::a19::a20::a21::a22::a23::a24::a25::a26::a27::a28::a29::a30::a31::a32::a33::a34::a35::a36::a37::a38::a39::a40::a41::a42::a43::a44::l) (some 44) c = a0::a1::a2::a3::a4::a5::a6::a7::a8::a9::a10::a11::a12::a13::a14::a15::a16::a17::a18::a19::a20::a21::a22::a23::a24::a25::a26::a27::a28::a29::a30::a31::a32::a33::a34::a35::a36::a37::a38::a39::a40::a41::a42::a43::c::l := rfl
theorem gt44 : (a0::a1::a2::a3::a4::a5::a6::a7::a8::a9::a10::a11::a12::a13::a14::a15::a16::a17::a18::a19::a20::a21::a22::a23::a24::a25::a26::a27::a28::a29::a30::a31::a32::a33::a34::a35::a36::a37::a38::a39::a40::a41::a42::a43::a44::l)[44]? = some a44 := rfl
theorem lk45 : aEval (a0::a1::a2::a3::a4::a5::a6::a7::a8::a9::a10::a11::a12::a13::a14::a15::a16::a17::a18::a19::a20::a21::a22::a23::a24::a25::a26::a27::a28::a29::a30::a31::a32::a33::a34::a35::a36::a37::a38::a39::a40::a41::a42::a43::a44::a45::l) (.tmp 45) = a45 := rfl
theorem pt45 : aPut (a0::a1::a2::a3::a4::a5::a6::a7::a8::a9::a10::a11::a12::a13::a14::a15::a16::a17::a18::a19::a20::a21::a22::a23::a24::a25::a26::a27::a28::a29::a30::a31::a32::a33::a34::a35::a36::a37::a38::a39::a40::a41::a42::a43::a44::a45::l) (some 45) c = a0::a1::a2::a3::a4::a5::a6::a7::a8::a9::a10::a11::a12::a13::a14::a15::a16::a17::a18::a19::a20::a21::a22::a23::a24::a25::a26::a27::a28::a29::a30::a31::a32::a33::a34::a35::a36::a37::a38::a39::a40::a41::a42::a43::a44::c::l := rfl
theorem gt45 : (a0::a1::a2::a3::a4::a5::a6::a7::a8::a9::a10::a11::a12::a13::a14::a15::a16::a17::a18::a19::a20::a21::a22::a23::a24::a25::a26::a27::a28::a29::a30::a31::a32::a33::a34::a35::a36::a37::a38::a39::a40::a41::a42::a43::a44::a45::l)[45]? = some a45 := rfl
theorem lk46 : aEval (a0::a1::a2::a3::a4::a5::a6::a7::a8::a9::a10::a11::a12::a13::a14::a15::a16::a17::a18::a19::a20::a21::a22::a23::a24::a25::a26::a27::a28::a29::a30::a31::a32::a33::a34::a35::a36::a37::a38::a39::a40::a41::a42::a43::a44::a45::a46::l) (.tmp 46) = a46 := rfl
theorem pt46 : aPut (a0::a1::a2::a3::a4::a5::a6::a7::a8::a9::a10::a11::a12::a13::a14::a15::a16::a17::a18::a19::a20::a21::a22::a23::a24::a25::a26::a27::a28::a29::a30::a31::a32::a33::a34::a35::a36::a37::a38::a39::a40::a41::a42::a43::a44::a45::a46::l) (some 46) c = a0::a1::a2::a3::a4::a5::a6::a7::a8::a9::a10::a11::a12::a13::a14::a15::a16::a17::a18::a19::a20::a21::a22::a23::a24::a25::a26::a27::a28::a29::a30::a31::a32::a33::a34::a35::a36::a37::a38::a39::a40::a41::a42::a43::a44::a45::c::l := rfl
theorem gt46 : (a0::a1::a2::a3::a4::a5::a6::a7::a8::a9::a10::a11::a12::a13::a14::a15::a16::a17::a18::a19::a20::a21::a22::a23::a24::a25::a26::a27::a28::a29::a30::a31::a32::a33::a34::a35::a36::a37::a38::a39::a40::a41::a42::a43::a44::a45::a46::l)[46]? = some a46 := rfl
theorem lk47 : aEval (a0::a1::a2::a3::a4::a5::a6::a7::a8::a9::a10::a11::a12::a13::a14::a15::a16::a17::a18::a19::a20::a21::a22::a23::a24::a25::a26::a27::a28::a29::a30::a31::a32::a33::a34::a35::a36::a37::a38::a39::a40::a41::a42::a43::a44::a45::a46::a47::l) (.tmp 47) = a47 := rfl
theorem pt47 : aPut (a0::a1::a2::a3::a4::a5::a6::a7::a8::a9::a10::a11::a12::a13::a14::a15::a16::a17::a18::a19::a20::a21::a22::a23::a24::a25::a26::a27::a28::a29::a30::a31::a32::a33::a34::a35::a36::a37::a38::a39::a40::a41::a42::a43::a44::a45::a46::a47::l) (some 47) c = a0::a1::a2::a3::a4::a5::a6::a7::a8::a9::a10::a11::a12::a13::a14::a15::a16::a17::a18::a19::a20::a21::a22::a23::a24::a25::a26::a27::a28::a29::a30::a31::a32::a33::a34::a35::a36::a37::a38::a39::a40::a41::a42::a43::a44::a45::a46::c::l := rfl
theorem gt47 : (a0::a1::a2::a3::a4::a5::a6::a7::a8::a9::a10::a11::a12::a13::a14::a15::a16::a17::a18::a19::a20::a21::a22::a23::a24::a25::a26::a27::a28::a29::a30::a31::a32::a33::a34::a35::a36::a37::a38::a39::a40::a41::a42::a43::a44::a45::a46::a47::l)[47]? = some a47 := rfl
theorem lk48 : aEval (a0::a1::a2::a3::a4::a5::a6::a7::a8::a9::a10::a11::a12::a13::a14::a15::a16::a17::a18::a19::a20::a21::a22::a23::a24::a25::a26::a27::a28::a29::a30::a31::a32::a33::a34::a35::a36::a37::a38::a39::a40::a41::a42::a43::a44::a45::a46::a47::a48::l) (.tmp 48) = a48 := rfl
theorem pt48 : aPut (a0::a1::a2::a3::a4::a5::a6::a7::a8::a9::a10::a11::a12::a13::a14::a15::a16::a17::a18::a19::a20::a21::a22::a23::a24::a25::a26::a27::a28::a29::a30::a31::a32::a33::a34::a35::a36::a37::a38::a39::a40::a41::a42::a43::a44::a45::a46::a47::a48::l) (some 48) c = a0::a1::a2::a3::a4::a5::a6::a7::a8::a9::a10::a11::a12::a13::a14::a15::a16::a17::a18::a19::a20::a21::a22::a23::a24::a25::a26::a27::a28::a29::a30::a31::a32::a33::a34::a35::a36::a37::a38::a39::a40::a41::a42::a43::a44::a45::a46::a47::c::l := rfl
theorem gt48 : (a0::a1::a2::a3::a4::a5::a6::a7::a8::a9::a10::a11::a12::a13::a14::a15::a16::a17::a18::a19::a20::a21::a22::a23::a24::a25::a26::a27::a28::a29::a30::a31::a32::a33::a34::a35::a36::a37::a38::a39::a40::a41::a42::a43::a44::a45::a46::a47::a48::l)[48]? = some a48 := rfl
theorem lk49 : aEval (a0::a1::a2::a3::a4::a5::a6::a7::a8::a9::a10::a11::a12::a13::a14::a15::a16::a17::a18::a19::a20::a21::a22::a23::a24::a25::a26::a27::a28::a29::a30::a31::a32::a33::a34::a35::a36::a37::a38::a39::a40::a41::a42::a43::a44::a45::a46::a47::a48::a49::l) (.tmp 49) = a49 := rfl
theorem pt49 : aPut (a0::a1::a2::a3::a4::a5::a6::a7::a8::a9::a10::a11::a12::a13::a14::a15::a16::a17::a18::a19::a20::a21::a22::a23::a24::a25::a26::a27::a28::a29::a30::a31::a32::a33::a34::a35::a36::a37::a38::a39::a40::a41::a42::a43::a44::a45::a46::a47::a48::a49::l) (some 49) c = a0::a1::a2::a3::a4::a5::a6::a7::a8::a9::a10::a11::a12::a13::a14::a15::a16::a17::a18::a19::a20::a21::a22::a23::a24::a25::a26::a27::a28::a29::a30::a31::a32::a33::a34::a35::a36::a37::a38::a39::a40::a41::a42::a43::a44::a45::a46::a47::a48::c::l := rfl
theorem gt49 : (a0::a1::a2::a3::a4::a5::a6::a7::a8::a9::a10::a11::a12::a13::a14::a15::a16::a17::a18::a19::a20::a21::a22::a23::a24::a25::a26::a27::a28::a29::a30::a31::a32::a33::a34::a35::a36::a37::a38::a39::a40::a41::a42::a43::a44::a45::a46::a47::a48::a49::l)[49]? = some a49 := rfl
theorem lk50 : aEval (a0::a1::a2::a3::a4::a5::a6::a7::a8::a9::a10::a11::a12::a13::a14::a15::a16::a17::a18::a19::a20::a21::a22::a23::a24::a25::a26::a27::a28::a29::a30::a31::a32::a33::a34::a35::a36::a37::a38::a39::a40::a41::a42::a43::a44::a45::a46::a47::a48::a49::a50::l) (.tmp 50) = a50 := rfl
theorem pt50 : aPut (a0::a1::a2::a3::a4::a5::a6::a7::a8::a9::a10::a11::a12::a13::a14::a15::a16::a17::a18::a19::a20::a21::a22::a23::a24::a25::a26::a27::a28::a29::a30::a31::a32::a33::a34::a35::a36::a37::a38::a39::a40::a41::a42::a43::a44::a45::a46::a47::a48::a49::a50::l) (some 50) c = a0::a1::a2::a3::a4::a5::a6::a7::a8::a9::a10::a11::a12::a13::a14::a15::a16::a17::a18::a19::a20::a21::a22::a23::a24::a25::a26::a27::a28::a29::a30::a31::a32::a33::a34::a35::a36::a37::a38::a39::a40::a41::a42::a43::a44::a45::a46::a47::a48::a49::c::l := rfl
theorem gt50 : (a0::a1::a2::a3::a4::a5::a6::a7::a8::a9::a10::a11::a12::a13::a14::a15::a16::a17::a18::a19::a20::a21::a22::a23::a24::a25::a26::a27::a28::a29::a30::a31::a32::a33::a34::a35::a36::a37::a38::a39::a40::a41::a42::a43::a44::a45::a46::a47::a48::a49::a50::l)[50]? = some a50 := rfl
theorem lk51 : aEval (a0::a1::a2::a3::a4::a5::a6::a7::a8::a9::a10::a11::a12::a13::a14::a15::a16::a17::a18::a19::a20::a21::a22::a23::a24::a25::a26::a27::a28::a29::a30::a31::a32::a33::a34::a35::a36::a37::a38::a39::a40::a41::a42::a43::a44::a45::a46::a47::a48::a49::a50::a51::l) (.tmp 51) = a51 := rfl
theorem pt51 : aPut (a0::a1::a2::a3::a4::a5::a6::a7::a8::a9::a10::a11::a12::a13::a14::a15::a16::a17::a18::a19::a20::a21::a22::a23::a24::a25::a26::a27::a28::a29::a30::a31::a32::a33::a34::a35::a36::a37::a38::a39::a40::a41::a42::a43::a44::a45::a46::a47::a48::a49::a50::a51::l) (some 51) c = a0::a1::a2::a3::a4::a5::a6::a7::a8::a9::a10::a11::a12::a13::a14::a15::a16::a17::a18::a19::a20::a21::a22::a23::a24::a25::a26::a27::a28::a29::a30::a31::a32::a33::a34::a35::a36::a37::a38::a39::a40::a41::a42::a43::a44::a45::a46::a47::a48::a49::a50::c::l := rfl
theorem gt51 : (a0::a1::a2::a3::a4::a5::a6::a7::a8::a9::a10::a11::a12::a13::a14::a15::a16::a17::a18::a19::a20::a21::a22::a23::a24::a25::a26::a27::a28::a29::a30::a31::a32::a33::a34::a35::a36::a37::a38::a39::a40::a41::a42::a43::a44::a45::a46::a47::a48::a49::a50::a51::l)[51]? = some a51 := rfl
theorem lk52 : aEval (a0::a1::a2::a3::a4::a5::a6::a7::a8::a9::a10::a11::a12::a13::a14::a15::a16::a17::a18::a19::a20::a21::a22::a23::a24::a25::a26::a27::a28::a29::a30::a31::a32::a33::a34::a35::a36::a37::a38::a39::a40::a41::a42::a43::a44::a45::a46::a47::a48::a49::a50::a51::a52::l) (.tmp 52) = a52 := rfl
theorem pt52 : aPut (a0::a1::a2::a3::a4::a5::a6::a7::a8::a9::a10::a11::a12::a13::a14::a15::a16::a17::a18::a19::a20::a21::a22::a23::a24::a25::a26::a27::a28::a29::a30::a31::a32::a33::a34::a35::a36::a37::a38::a39::a40::a41::a42::a43::a44::a45::a46::a47::a48::a49::a50::a51::a52::l) (some 52) c = a0::a1::a2::a3::a4::a5::a6::a7::a8::a9::a10::a11::a12::a13::a14::a15::a16::a17::a18::a19::a20::a21::a22::a23::a24::a25::a26::a27::a28::a29::a30::a31::a32::a33::a34::a35::a36::a37::a38::a39::a40::a41::a42::a43::a44::a45::a46::a47::a48::a49::a50::a51::c::l := rfl
theorem gt52 : (a0::a1::a2::a3::a4::a5::a6::a7::a8::a9::a10::a11::a12::a13::a14::a15::a16::a17::a18::a19::a20::a21::a22::a23::a24::a25::a26::a27::a28::a29::a30::a31::a32::a33::a34::a35::a36::a37::a38::a39::a40::a41::a42::a43::a44::a45::a46::a47::a48::a49::a50::a51::a52::l)[52]? = some a52 := rfl
theorem lk53 : aEval (a0::a1::a2::a3::a4::a5::a6::a7::a8::a9::a10::a11::a12::a13::a14::a15::a16::a17::a18::a19::a20::a21::a22::a23::a24::a25::a26::a27::a28::a29::a30::a31::a32::a33::a34::a35::a36::a37::a38::a39::a40::a41::a42::a43::a44::a45::a46::a47::a48::a49::a50::a51::a52::a53::l) (.tmp 53) = a53 := rfl
theorem pt53 : aPut (a0::a1::a2::a3::a4::a5::a6::a7::a8::a9::a10::a11::a12::a13::a14::a15::a16::a17::a18::a19::a20::a21::a22::a23::a24::a25::a26::a27::a28::a29::a30::a31::a32::a33::a34::a35::a36::a37::a38::a39::a40::a41::a42::a43::a44::a45::a46::a47::a48::a49::a50::a51::a52::a53::l) (some 53) c = a0::a1::a2::a3::a4::a5::a6::a7::a8::a9::a10::a11::a12::a13::a14::a15::a16::a17::a18::a19::a20::a21::a22::a23::a24::a25::a26::a27::a28::a29::a30::a31::a32::a33::a34::a35::a36::a37::a38::a39::a40::a41::a42::a43::a44::a45::a46::a47::a48::a49::a50::a51::a52::c::l := rfl
theorem gt53 : (a0::a1::a2::a3::a4::a5::a6::a7::a8::a9::a10::a11::a12::a13::a14::a15::a16::a17::a18::a19::a20::a21::a22::a23::a24::a25::a26::a27::a28::a29::a30::a31::a32::a33::a34::a35::a36::a37::a38::a39::a40::a41::a42::a43::a44::a45::a46::a47::a48::a49::a50::a51::a52::a53::l)[53]? = some a53 := rfl
theorem lk54 : aEval (a0::a1::a2::a3::a4::a5::a6::a7::a8::a9::a10::a11::a12::a13::a14::a15::a16::a17::a18::a19::a20::a21::a22::a23::a24::a25::a26::a27::a28::a29::a30::a31::a32::a33::a34::a35::a36::a37::a38::a39::a40::a41::a42::a43::a44::a45::a46::a47::a48::a49::a50::a51::a52::a53::a54::l) (.tmp 54) = a54 := rfl
theorem pt54 : aPut (a0::a1::a2::a3::a4::a5::a6::a7::a8::a9::a10::a11::a12::a13::a14::a15::a16::a17::a18::a19::a20::a21::a22::a23::a24::a25::a26::a27::a28::a29::a30::a31::a32::a33::a34::a35::a36::a37::a38::a39::a40::a41::a42::a43::a44::a45::a46::a47::a48::a49::a50::a51::a52::a53::a54::l) (some 54) c = a0::a1::a2::a3::a4::a5::a6::a7::a8::a9::a10::a11::a12::a13::a14::a15::a16::a17::a18::a19::a20::a21::a22::a23::a24::a25::a26::a27::a28::a29::a30::a31::a32::a33::a34::a35::a36::a37::a38::a39::a40::a41::a42::a43::a44::a45::a46::a47::a48::a49::a50::a51::a52::a53::c::l := rfl
theorem gt54 : (a0::a1::a2::a3::a4::a5::a6::a7::a8::a9::a10::a11::a12::a13::a14::a15::a16::a17::a18::a19::a20::a21::a22::a23::a24::a25::a26::a27::a28::a29::a30::a31::a32::a33::a34::a35::a36::a37::a38::a39::a40::a41::a42::a43::a44::a45::a46::a47::a48::a49::a50::a51::a52::a53::a54::l)[54]? = some a54 := rfl
theorem lk55 : aEval (a0::a1::a2::a3::a4::a5::a6::a7::a8::a9::a10::a11::a12::a13::a14::a15::a16::a17::a18::a19::a20::a21::a22::a23::a24::a25::a26::a27::a28::a29::a30::a31::a32::a33::a34::a35::a36::a37::a38::a39::a40::a41::a42::a43::a44::a45::a46::a47::a48::a49::a50::a51::a52::a53::a54::a55::l) (.tmp 55) = a55 := rfl
theorem pt55 : aPut (a0::a1::a2::a3::a4::a5::a6::a7::a8::a9::a10::a11::a12::a13::a14::a15::a16::a17::a18::a19::a20::a21::a22::a23::a24::a25::a26::a27::a28::a29::a30::a31::a32::a33::a34::a35::a36::a37::a38::a39::a40::a41::a42::a43::a44::a45::a46::a47::a48::a49::a50::a51::a52::a53::a54::a55::l) (some 55) c = a0::a1::a2::a3::a4::a5::a6::a7::a8::a9::a10::a11::a12::a13::a14::a15::a16::a17::a18::a19::a20::a21::a22::a23::a24::a25::a26::a27::a28::a29::a30::a31::a32::a33::a34::a35::a36::a37::a38::a39::a40::a41::a42::a43::a44::a45::a46::a47::a48::a49::a50::a51::a52::a53::a54::c::l := rfl
theorem gt55 : (a0::a1::a2::a3::a4::a5::a6::a7::a8::a9::a10::a11::a12::a13::a14::a15::a16::a17::a18::a19::a20::a21::a22::a23::a24::a25::a26::a27::a28::a29::a30::a31::a32::a33::a34::a35::a36::a37::a38::a39::a40::a41::a42::a43::a44::a45::a46::a47::a48::a49::a50::a51::a52::a53::a54::a55::l)[55]? = some a55 := rfl
theorem lk56 : aEval (a0::a1::a2::a3::a4::a5::a6::a7::a8::a9::a10::a11::a12::a13::a14::a15::a16::a17::a18::a19::a20::a21::a22::a23::a24::a25::a26::a27::a28::a29::a30::a31::a32::a33::a34::a35::a36::a37::a38::a39::a40::a41::a42::a43::a44::a45::a46::a47::a48::a49::a50::a51::a52::a53::a54::a55::a56::l) (.tmp 56) = a56 := rfl
theorem pt56 : aPut (a0::a1::a2::a3::a4::a5::a6::a7::a8::a9::a10::a11::a12::a13::a14::a15::a16::a17::a18::a19::a20::a21::a22::a23::a24::a25::a26::a27::a28::a29::a30::a31::a32::a33::a34::a35::a36::a37::a38::a39::a40::a41::a42::a43::a44::a45::a46::a47::a48::a49::a50::a51::a52::a53::a54::a55::a56::l) (some 56) c = a0::a1::a2::a3::a4::a5::a6::a7::a8::a9::a10::a11::a12::a13::a14::a15::a16::a17::a18::a19::a20::a21::a22::a23::a24::a25::a26::a27::a28::a29::a30::a31::a32::a33::a34::a35::a36::a37::a38::a39::a40::a41::a42::a43::a44::a45::a46::a47::a48::a49::a50::a51::a52::a53::a54::a55::c::l := rfl
theorem gt56 : (a0::a1::a2::a3::a4::a5::a6::a7::a8::a9::a10::a11::a12::a13::a14::a15::a16::a17::a18::a19::a20::a21::a22::a23::a24::a25::a26::a27::a28::a29::a30::a31::a32::a33::a34::a35::a36::a37::a38::a39::a40::a41::a42::a43::a44::a45::a46::a47::a48::a49::a50::a51::a52::a53::a54::a55::a56::l)[56]? = some a56 := rfl
theorem lk57 : aEval (a0::a1::a2::a3::a4::a5::a6::a7::a8::a9::a10::a11::a12::a13::a14::a15::a16::a17::a18::a19::a20::a21::a22::a23::a24::a25::a26::a27::a28::a29::a30::a31::a32::a33::a34::a35::a36::a37::a38::a39::a40::a41::a42::a43::a44::a45::a46::a47::a48::a49::a50::a51::a52::a53::a54::a55::a56::a57::l) (.tmp 57) = a57 := rfl
theorem pt57 : aPut (a0::a1::a2::a3::a4::a5::a6::a7::a8::a9::a10::a11::a12::a13::a14::a15::a16::a17::a18::a19::a20::a21::a22::a23::a24::a25::a26::a27::a28::a29::a30::a31::a32::a33::a34::a35::a36::a37::a38::a39::a40::a41::a42::a43::a44::a45::a46::a47::a48::a49::a50::a51::a52::a53::a54::a55::a56::a57::l) (some 57) c = a0::a1::a2::a3::a4::a5::a6::a7::a8::a9::a10::a11::a12::a13::a14::a15::a16::a17::a18::a19::a20::a21::a22::a23::a24::a25::a26::a27::a28::a29::a30::a31::a32::a33::a34::a35::a36::a37::a38::a39::a40::a41::a42::a43::a44::a45::a46::a47::a48::a49::a50::a51::a52::a53::a54::a55::a56::c::l := rfl
theorem gt57 : (a0::a1::a2::a3::a4::a5::a6::a7::a8::a9::a10::a11::a12::a13::a14::a15::a16::a17::a18::a19::a20::a21::a22::a23::a24::a25::a26::a27::a28::a29::a30::a31::a32::a33::a34::a35::a36::a37::a38::a39::a40::a41::a42::a43::a44::a45::a46::a47::a48::a49::a50::a51::a52::a53::a54::a55::a56::a57::l)[57]? = some a57 := rfl
theorem lk58 : aEval (a0::a1::a2::a3::a4::a5::a6::a7::a8::a9::a10::a11::a12::a13::a14::a15::a16::a17::a18::a19::a20::a21::a22::a23::a24::a25::a26::a27::a28::a29::a30::a31::a32::a33::a34::a35::a36::a37::a38::a39::a40::a41::a42::a43::a44::a45::a46::a47::a48::a49::a50::a51::a52::a53::a54::a55::a56::a57::a58::l) (.tmp 58) = a58 := rfl
theorem pt58 : aPut (a0::a1::a2::a3::a4::a5::a6::a7::a8::a9::a10::a11::a12::a13::a14::a15::a16::a17::a18::a19::a20::a21::a22::a23::a24::a25::a26::a27::a28::a29::a30::a31::a32::a33::a34::a35::a36::a37::a38::a39::a40::a41::a42::a43::a44::a45::a46::a47::a48::a49::a50::a51::a52::a53::a54::a55::a56::a57::a58::l) (some 58) c = a0::a1::a2::a3::a4::a5::a6::a7::a8::a9::a10::a11::a12::a13::a14::a15::a16::a17::a18::a19::a20::a21::a22::a23::a24::a25::a26::a27::a28::a29::a30::a31::a32::a33::a34::a35::a36::a37::a38::a39::a40::a41::a42::a43::a44::a45::a46::a47::a48::a49::a50::a51::a52::a53::a54::a55::a56::a57::c::l := rfl
theorem gt58 : (a0::a1::a2::a3::a4::a5::a6::a7::a8::a9::a10::a11::a12::a13::a14::a15::a16::a17::a18::a19::a20::a21::a22::a23::a24::a25::a26::a27::a28::a29::a30::a31::a32::a33::a34::a35::a36::a37::a38::a39::a40::a41::a42::a43::a44::a45::a46::a47::a48::a49::a50::a51::a52::a53::a54::a55::a56::a57::a58::l)[58]? = some a58 := rfl
theorem lk59 : aEval (a0::a1::a2::a3::a4::a5::a6::a7::a8::a9::a10::a11::a12::a13::a14::a15::a16::a17::a18::a19::a20::a21::a22::a23::a24::a25::a26::a27::a28::a29::a30::a31::a32::a33::a34::a35::a36::a37::a38::a39::a40::a41::a42::a43::a44::a45::a46::a47::a48::a49::a50::a51::a52::a53::a54::a55::a56::a57::a58::a59::l) (.tmp 59) = a59 := rfl
theorem pt59 : aPut (a0::a1::a2::a3::a4::a5::a6::a7::a8::a9::a10::a11::a12::a13::a14::a15::a16::a17::a18::a19::a20::a21::a22::a23::a24::a25::a26::a27::a28::a29::a30::a31::a32::a33::a34::a35::a36::a37::a38::a39::a40::a41::a42::a43::a44::a45::a46::a47::a48::a49::a50::a51::a52::a53::a54::a55::a56::a57::a58::a59::l) (some 59) c = a0::a1::a2::a3::a4::a5::a6::a7::a8::a9::a10::a11::a12::a13::a14::a15::a16::a17::a18::a19::a20::a21::a22::a23::a24::a25::a26::a27::a28::a29::a30::a31::a32::a33::a34::a35::a36::a37::a38::a39::a40::a41::a42::a43::a44::a45::a46::a47::a48::a49::a50::a51::a52::a53::a54::a55::a56::a57::a58::c::l := rfl
theorem gt59 : (a0::a1::a2::a3::a4::a5::a6::a7::a8::a9::a10::a11::a12::a13::a14::a15::a16::a17::a18::a19::a20::a21::a22::a23::a24::a25::a26::a27::a28::a29::a30::a31::a32::a33::a34::a35::a36::a37::a38::a39::a40::a41::a42::a43::a44::a45::a46::a47::a48::a49::a50::a51::a52::a53::a54::a55::a56::a57::a58::a59::l)[59]? = some a59 := rfl
theorem lk60 : aEval (a0::a1::a2::a3::a4::a5::a6::a7::a8::a9::a10::a11::a12::a13::a14::a15::a16::a17::a18::a19::a20::a21::a22::a23::a24::a25::a26::a27::a28::a29::a30::a31::a32::a33::a34::a35::a36::a37::a38::a39::a40::a41::a42::a43::a44::a45::a46::a47::a48::a49::a50::a51::a52::a53::a54::a55::a56::a57::a58::a59::a60::l) (.tmp 60) = a60 := rfl
theorem pt60 : aPut (a0::a1::a2::a3::a4::a5::a6::a7::a8::a9::a10::a11::a12::a13::a14::a15::a16::a17::a18::a19::a20::a21::a22::a23::a24::a25::a26::a27::a28::a29::a30::a31::a32::a33::a34::a35::a36::a37::a38::a39::a40::a41::a42::a43::a44::a45::a46::a47::a48::a49::a50::a51::a52::a53::a54::a55::a56::a57::a58::a59::a60::l) (some 60) c = a0::a1::a2::a3::a4::a5::a6::a7::a8::a9::a10::a11::a12::a13::a14::a15::a16::a17::a18::a19::a20::a21::a22::a23::a24::a25::a26::a27::a28::a29::a30::a31::a32::a33::a34::a35::a36::a37::a38::a39::a40::a41::a42::a43::a44::a45::a46::a47::a48::a49::a50::a51::a52::a53::a54::a55::a56::a57::a58::a59::c::l := rfl
theorem gt60 : (a0::a1::a2::a3::a4::a5::a6::a7::a8::a9::a10::a11::a12::a13::a14::a15::a16::a17::a18::a19::a20::a21::a22::a23::a24::a25::a26::a27::a28::a29::a30::a31::a32::a33::a34::a35::a36::a37::a38::a39::a40::a41::a42::a43::a44::a45::a46::a47::a48::a49::a50::a51::a52::a53::a54::a55::a56::a57::a58::a59::a60::l)[60]? = some a60 := rfl
theorem lk61 : aEval (a0::a1::a2::a3::a4::a5::a6::a7::a8::a9::a10::a11::a12::a13::a14::a15::a16::a17::a18::a19::a20::a21::a22::a23::a24::a25::a26::a27::a28::a29::a30::a31::a32::a33::a34::a35::a36::a37::a38::a39::a40::a41::a42::a43::a44::a45::a46::a47::a48::a49::a50::a51::a52::a53::a54::a55::a56::a57::a58::a59::a60::a61::l) (.tmp 61) = a61 := rfl
theorem pt61 : aPut (a0::a1::a2::a3::a4::a5::a6::a7::a8::a9::a10::a11::a12::a13::a14::a15::a16::a17::a18::a19::a20::a21::a22::a23::a24::a25::a26::a27::a28::a29::a30::a31::a32::a33::a34::a35::a36::a37::a38::a39::a40::a41::a42::a43::a44::a45::a46::a47::a48::a49::a50::a51::a52::a53::a54::a55::a56::a57::a58::a59::a60::a61::l) (some 61) c = a0::a1::a2::a3::a4::a5::a6::a7::a8::a9::a10::a11::a12::a13::a14::a15::a16::a17::a18::a19::a20::a21::a22::a23::a24::a25::a26::a27::a28::a29::a30::a31::a32::a33::a34::a35::a36::a37::a38::a39::a40::a41::a42::a43::a44::a45::a46::a47::a48::a49::a50::a51::a52::a53::a54::a55::a56::a57::a58::a59::a60::c::l := rfl
theorem gt61 : (a0::a1::a2::a3::a4::a5::a6::a7::a8::a9::a10::a11::a12::a13::a14::a15::a16::a17::a18::a19::a20::a21::a22::a23::a24::a25::a26::a27::a28::a29::a30::a31::a32::a33::a34::a35::a36::a37::a38::a39::a40::a41::a42::a43::a44::a45::a46::a47::a48::a49::a50::a51::a52::a53::a54::a55::a56::a57::a58::a59::a60::a61::l)[61]? = some a61 := rfl
theorem lk62 : aEval (a0::a1::a2::a3::a4::a5::a6::a7::a8::a9::a10::a11::a12::a13::a14::a15::a16::a17::a18::a19::a20::a21::a22::a23::a24::a25::a26::a27::a28::a29::a30::a31::a32::a33::a34::a35::a36::a37::a38::a39::a40::a41::a42::a43::a44::a45::a46::a47::a48::a49::a50::a51::a52::a53::a54::a55::a56::a57::a58::a59::a60::a61::a62::l) (.tmp 62) = a62 := rfl
theorem pt62 : aPut (a0::a1::a2::a3::a4::a5::a6::a7::a8::a9::a10::a11::a12::a13::a14::a15::a16::a17::a18::a19::a20::a21::a22::a23::a24::a25::a26::a27::a28::a29::a30::a31::a32::a33::a34::a35::a36::a37::a38::a39::a40::a41::a42::a43::a44::a45::a46::a47::a48::a49::a50::a51::a52::a53::a54::a55::a56::a57::a58::a59::a60::a61::a62::l) (some 62) c = a0::a1::a2::a3::a4::a5::a6::a7::a8::a9::a10::a11::a12::a13::a14::a15::a16::a17::a18::a19::a20::a21::a22::a23::a24::a25::a26::a27::a28::a29::a30::a31::a32::a33::a34::a35::a36::a37::a38::a39::a40::a41::a42::a43::a44::a45::a46::a47::a48::a49::a50::a51::a52::a53::a54::a55::a56::a57::a58::a59::a60::a61::c::l := rfl
theorem gt62 : (a0::a1::a2::a3::a4::a5::a6::a7::a8::a9::a10::a11::a12::a13::a14::a15::a16::a17::a18::a19::a20::a21::a22::a23::a24::a25::a26::a27::a28::a29::a30::a31::a32::a33::a34::a35::a36::a37::a38::a39::a40::a41::a42::a43::a44::a45::a46::a47::a48::a49::a50::a51::a52::a53::a54::a55::a56::a57::a58::a59::a60::a61::a62::l)[62]? = some a62 := rfl
theorem lk63 : aEval (a0::a1::a2::a3::a4::a5::a6::a7::a8::a9::a10::a11::a12::a13::a14::a15::a16::a17::a18::a19::a20::a21::a22::a23::a24::a25::a26::a27::a28::a29::a30::a31::a32::a33::a34::a35::a36::a37::a38::a39::a40::a41::a42::a43::a44::a45::a46::a47::a48::a49::a50::a51::a52::a53::a54::a55::a56::a57::a58::a59::a60::a61::a62::a63::l) (.tmp 63) = a63 := rfl
theorem pt63 : aPut (a0::a1::a2::a3::a4::a5::a6::a7::a8::a9::a10::a11::a12::a13::a14::a15::a16::a17::a18::a19::a20::a21::a22::a23::a24::a25::a26::a27::a28::a29::a30::a31::a32::a33::a34::a35::a36::a37::a38::a39::a40::a41::a42::a43::a44::a45::a46::a47::a48::a49::a50::a51::a52::a53::a54::a55::a56::a57::a58::a59::a60::a61::a62::a63::l) (some 63) c = a0::a1::a2::a3::a4::a5::a6::a7::a8::a9::a10::a11::a12::a13::a14::a15::a16::a17::a18::a19::a20::a21::a22::a23::a24::a25::a26::a27::a28::a29::a30::a31::a32::a33::a34::a35::a36::a37::a38::a39::a40::a41::a42::a43::a44::a45::a46::a47::a48::a49::a50::a51::a52::a53::a54::a55::a56::a57::a58::a59::a60::a61::a62::c::l := rfl
theorem gt63 : (a0::a1::a2::a3::a4::a5::a6::a7::a8::a9::a10::a11::a12::a13::a14::a15::a16::a17::a18::a19::a20::a21::a22::a23::a24::a25::a26::a27::a28::a29::a30::a31::a32::a33::a34::a35::a36::a37::a38::a39::a40::a41::a42::a43::a44::a45::a46::a47::a48::a49::a50::a51::a52::a53::a54::a55::a56::a57::a58::a59::a60::a61::a62::a63::l)[63]? = some a63 := rfl
theorem lk64 : aEval (a0::a1::a2::a3::a4::a5::a6::a7::a8::a9::a10::a11::a12::a13::a14::a15::a16::a17::a18::a19::a20::a21::a22::a23::a24::a25::a26::a27::a28::a29::a30::a31::a32::a33::a34::a35::a36::a37::a38::a39::a40::a41::a42::a43::a44::a45::a46::a47::a48::a49::a50::a51::a52::a53::a54::a55::a56::a57::a58::a59::a60::a61::a62::a63::a64::l) (.tmp 64) = a64 := rfl
theorem pt64 : aPut (a0::a1::a2::a3::a4::a5::a6::a7::a8::a9::a10::a11::a12::a13::a14::a15::a16::a17::a18::a19::a20::a21::a22::a23::a24::a25::a26::a27::a28::a29::a30::a31::a32::a33::a34::a35::a36::a37::a38::a39::a40::a41::a42::a43::a44::a45::a46::a47::a48::a49::a50::a51::a52::a53::a54::a55::a56::a57::a58::a59::a60::a61::a62::a63::a64::l) (some 64) c = a0::a1::a2::a3::a4::a5::a6::a7::a8::a9::a10::a11::a12::a13::a14::a15::a16::a17::a18::a19::a20::a21::a22::a23::a24::a25::a26::a27::a28::a29::a30::a31::a32::a33::a34::a35::a36::a37::a38::a39::a40::a41::a42::a43::a44::a45::a46::a47::a48::a49::a50::a51::a52::a53::a54::a55::a56::a57::a58::a59::a60::a61::a62::a63::c::l := rfl
theorem gt64 : (a0::a1::a2::a3::a4::a5::a6::a7::a8::a9::a10::a11::a12::a13::a14::a15::a16::a17::a18::a19::a20::a21::a22::a23::a24::a25::a26::a27::a28::a29::a30::a31::a32::a33::a34::a35::a36::a37::a38::a39::a40::a41::a42::a43::a44::a45::a46::a47::a48::a49::a50::a51::a52::a53::a54::a55::a56::a57::a58::a59::a60::a61::a62::a63::a64::l)[64]? = some a64 := rfl
theorem lk65 : aEval (a0::a1::a2::a3::a4::a5::a6::a7::a8::a9::a10::a11::a12::a13::a14::a15::a16::a17::a18::a19::a20::a21::a22::a23::a24::a25::a26::a27::a28::a29::a30::a31::a32::a33::a34::a35::a36::a37::a38::a39::a40::a41::a42::a43::a44::a45::a46::a47::a48::a49::a50::a51::a52::a53::a54::a55::a56::a57::a58::a59::a60::a61::a62::a63::a64::a65::l) (.tmp 65) = a65 := rfl
theorem pt65 : aPut (a0::a1::a2::a3::a4::a5::a6::a7::a8::a9::a10::a11::a12::a13::a14::a15::a16::a17::a18::a19::a20::a21::a22::a23::a24::a25::a26::a27::a28::a29::a30::a31::a32::a33::a34::a35::a36::a37::a38::a39::a40::a41::a42::a43::a44::a45::a46::a47::a48::a49::a50::a51::a52::a53::a54::a55::a56::a57::a58::a59::a60::a61::a62::a63::a64::a65::l) (some 65) c = a0::a1::a2::a3::a4::a5::a6::a7::a8::a9::a10::a11::a12::a13::a14::a15::a16::a17::a18::a19::a20::a21::a22::a23::a24::a25::a26::a27::a28::a29::a30::a31::a32::a33::a34::a35::a36::a37::a38::a39::a40::a41::a42::a43::a44::a45::a46::a47::a48::a49::a50::a51::a52::a53::a54::a55::a56::a57::a58::a59::a60::a61::a62::a63::a64::c::l := rfl
theorem gt65 : (a0::a1::a2::a3::a4::a5::a6::a7::a8::a9::a10::a11::a12::a13::a14::a15::a16::a17::a18::a19::a20::a21::a22::a23::a24::a25::a26::a27::a28::a29::a30::a31::a32::a33::a34::a35::a36::a37::a38::a39::a40::a41::a42::a43::a44::a45::a46::a47::a48::a49::a50::a51::a52::a53::a54::a55::a56::a57::a58::a59::a60::a61::a62::a63::a64::a65::l)[65]? = some a65 := rfl
theorem lk66 : aEval (a0::a1::a2::a3::a4::a5::a6::a7::a8::a9::a10::a11::a12::a13::a14::a15::a16::a17::a18::a19::a20::a21::a22::a23::a24::a25::a26::a27::a28::a29::a30::a31::a32::a33::a34::a35::a36::a37::a38::a39::a40::a41::a42::a43::a44::a45::a46::a47::a48::a49::a50::a51::a52::a53::a54::a55::a56::a57::a58::a59::a60::a61::a62::a63::a64::a65::a66::l) (.tmp 66) = a66 := rfl
theorem pt66 : aPut (a0::a1::a2::a3::a4::a5::a6::a7::a8::a9::a10::a11::a12::a13::a14::a15::a16::a17::a18::a19::a20::a21::a22::a23::a24::a25::a26::a27::a28::a29::a30::a31::a32::a33::a34::a35::a36::a37::a38::a39::a40::a41::a42::a43::a44::a45::a46::a47::a48::a49::a50::a51::a52::a53::a54::a55::a56::a57::a58::a59::a60::a61::a62::a63::a64::a65::a66::l) (some 66) c = a0::a1::a2::a3::a4::a5::a6::a7::a8::a9::a10::a11::a12::a13::a14::a15::a16::a17::a18::a19::a20::a21::a22::a23::a24::a25::a26::a27::a28::a29::a30::a31::a32::a33::a34::a35::a36::a37::a38::a39::a40::a41::a42::a43::a44::a45::a46::a47::a48::a49::a50::a51::a52::a53::a54::a55::a56::a57::a58::a59::a60::a61::a62::a63::a64::a65::c::l := rfl
theorem gt66 : (a0::a1::a2::a3::a4::a5::a6::a7::a8::a9::a10::a11::a12::a13::a14::a15::a16::a17::a18::a19::a20::a21::a22::a23::a24::a25::a26::a27::a28::a29::a30::a31::a32::a33::a34::a35::a36::a37::a38::a39::a40::a41::a42::a43::a44::a45::a46::a47::a48::a49::a50::a51::a52::a53::a54::a55::a56::a57::a58::a59::a60::a61::a62::a63::a64::a65::a66::l)[66]? = some a66 := rfl
theorem lk67 : aEval (a0::a1::a2::a3::a4::a5::a6::a7::a8::a9::a10::a11::a12::a13::a14::a15::a16::a17::a18::a19::a20::a21::a22::a23::a24::a25::a26::a27::a28::a29::a30::a31::a32::a33::a34::a35::a36::a37::a38::a39::a40::a41::a42::a43::a44::a45::a46::a47::a48::a49::a50::a51::a52::a53::a54::a55::a56::a57::a58::a59::a60::a61::a62::a63::a64::a65::a66::a67::l) (.tmp 67) = a67 := rfl
theorem pt67 : aPut (a0::a1::a2::a3::a4::a5::a6::a7::a8::a9::a10::a11::a12::a13::a14::a15::a16::a17::a18::a19::a20::a21::a22::a23::a24::a25::a26::a27::a28::a29::a30::a31::a32::a33::a34::a35::a36::a37::a38::a39::a40::a41::a42::a43::a44::a45::a46::a47::a48::a49::a50::a51::a52::a53::a54::a55::a56::a57::a58::a59::a60::a61::a62::a63::a64::a65::a66::a67::l) (some 67) c = a0::a1::a2::a3::a4::a5::a6::a7::a8::a9::a10::a11::a12::a13::a14::a15::a16::a17::a18::a19::a20::a21::a22::a23::a24::a25::a26::a27::a28::a29::a30::a31::a32::a33::a34::a35::a36::a37::a38::a39::a40::a41::a42::a43::a44::a45::a46::a47::a48::a49::a50::a51::a52::a53::a54::a55::a56::a57::a58::a59::a60::a61::a62::a63::a64::a65::a66::c::l := rfl
theorem gt67 : (a0::a1::a2::a3::a4::a5::a6::a7::a8::a9::a10::a11::a12::a13::a14::a15::a16::a17::a18::a19::a20::a21::a22::a23::a24::a25::a26::a27::a28::a29::a30::a31::a32::a33::a34::a35::a36::a37::a38::a39::a40::a41::a42::a43::a44::a45::a46::a47::a48::a49::a50::a51::a52::a53::a54::a55::a56::a57::a58::a59::a60::a61::a62::a63::a64::a65::a66::a67::l)[67]? = some a67 := rfl
theorem lk68 : aEval (a0::a1::a2::a3::a4::a5::a6::a7::a8::a9::a10::a11::a12::a13::a14::a15::a16::a17::a18::a19::a20::a21::a22::a23::a24::a25::a26::a27::a28::a29::a30::a31::a32::a33::a34::a35::a36::a37::a38::a39::a40::a41::a42::a43::a44::a45::a46::a47::a48::a49::a50::a51::a52::a53::a54::a55::a56::a57::a58::a59::a60::a61::a62::a63::a64::a65::a66::a67::a68::l) (.tmp 68) = a68 := rfl
theorem pt68 : aPut (a0::a1::a2::a3::a4::a5::a6::a7::a8::a9::a10::a11::a12::a13::a14::a15::a16::a17::a18::a19::a20::a21::a22::a23::a24::a25::a26::a27::a28::a29::a30::a31::a32::a33::a34::a35::a36::a37::a38::a39::a40::a41::a42::a43::a44::a45::a46::a47::a48::a49::a50::a51::a52::a53::a54::a55::a56::a57::a58::a59::a60::a61::a62::a63::a64::a65::a66::a67::a68::l) (some 68) c = a0::a1::a2::a3::a4::a5::a6::a7::a8::a9::a10::a11::a12::a13::a14::a15::a16::a17::a18::a19::a20::a21::a22::a23::a24::a25::a26::a27::a28::a29::a30::a31::a32::a33::a34::a35::a36::a37::a38::a39::a40::a41::a42::a43::a44::a45::a46::a47::a48::a49::a50::a51::a52::a53::a54::a55::a56::a57::a58::a59::a60::a61::a62::a63::a64::a65::a66::a67::c::l := rfl
theorem gt68 : (a0::a1::a2::a3::a4::a5::a6::a7::a8::a9::a10::a11::a12::a13::a14::a15::a16::a17::a18::a19::a20::a21::a22::a23::a24::a25::a26::a27::a28::a29::a30::a31::a32::a33::a34::a35::a36::a37::a38::a39::a40::a41::a42::a43::a44::a45::a46::a47::a48::a49::a50::a51::a52::a53::a54::a55::a56::a57::a58::a59::a60::a61::a62::a63::a64::a65::a66::a67::a68::l)[68]? = some a68 := rfl
theorem lk69 : aEval (a0::a1::a2::a3::a4::a5::a6::a7::a8::a9::a10::a11::a12::a13::a14::a15::a16::a17::a18::a19::a20::a21::a22::a23::a24::a25::a26::a27::a28::a29::a30::a31::a32::a33::a34::a35::a36::a37::a38::a39::a40::a41::a42::a43::a44::a45::a46::a47::a48::a49::a50::a51::a52::a53::a54::a55::a56::a57::a58::a59::a60::a61::a62::a63::a64::a65::a66::a67::a68::a69::l) (.tmp 69) = a69 := rfl
theorem pt69 : aPut (a0::a1::a2::a3::a4::a5::a6::a7::a8::a9::a10::a11::a12::a13::a14::a15::a16::a17::a18::a19::a20::a21::a22::a23::a24::a25::a26::a27::a28::a29::a30::a31::a32::a33::a34::a35::a36::a37::a38::a39::a40::a41::a42::a43::a44::a45::a46::a47::a48::a49::a50::a51::a52::a53::a54::a55::a56::a57::a58::a59::a60::a61::a62::a63::a64::a65::a66::a67::a68::a69::l) (some 69) c = a0::a1::a2::a3::a4::a5::a6::a7::a8::a9::a10::a11::a12::a13::a14::a15::a16::a17::a18::a19::a20::a21::a22::a23::a24::a25::a26::a27::a28::a29::a30::a31::a32::a33::a34::a35::a36::a37::a38::a39::a40::a41::a42::a43::a44::a45::a46::a47::a48::a49::a50::a51::a52::a53::a54::a55::a56::a57::a58::a59::a60::a61::a62::a63::a64::a65::a66::a67::a68::c::l := rfl
theorem gt69 : (a0::a1::a2::a3::a4::a5::a6::a7::a8::a9::a10::a11::a12::a13::a14::a15::a16::a17::a18::a19::a20::a21::a22::a23::a24::a25::a26::a27::a28::a29::a30::a31::a32::a33::a34::a35::a36::a37::a38::a39::a40::a41::a42::a43::a44::a45::a46::a47::a48::a49::a50::a51::a52::a53::a54::a55::a56::a57::a58::a59::a60::a61::a62::a63::a64::a65::a66::a67::a68::a69::l)[69]? = some a69 := rfl
theorem lkS {k : Nat} (h : aEval l (.tmp k) = d) : aEval (a0::a1::a2::a3::a4::a5::a6::a7::a8::a9::a10::a11::a12::a13::a14::a15::a16::a17::a18::a19::a20::a21::a22::a23::a24::a25::a26::a27::a28::a29::a30::a31::a32::a33::a34::a35::a36::a37::a38::a39::a40::a41::a42::a43::a44::a45::a46::a47::a48::a49::a50::a51::a52::a53::a54::a55::a56::a57::a58::a59::a60::a61::a62::a63::a64::a65::a66::a67::a68::a69::l) (.tmp (k + 70)) = d := h
theorem ptS {k : Nat} (h : aPut l (some k) c = m) : aPut (a0::a1::a2::a3::a4::a5::a6::a7::a8::a9::a10::a11::a12::a13::a14::a15::a16::a17::a18::a19::a20::a21::a22::a23::a24::a25::a26::a27::a28::a29::a30::a31::a32::a33::a34::a35::a36::a37::a38::a39::a40::a41::a42::a43::a44::a45::a46::a47::a48::a49::a50::a51::a52::a53::a54::a55::a56::a57::a58::a59::a60::a61::a62::a63::a64::a65::a66::a67::a68::a69::l) (some (k + 70)) c = a0::a1::a2::a3::a4::a5::a6::a7::a8::a9::a10::a11::a12::a13::a14::a15::a16::a17::a18::a19::a20::a21::a22::a23::a24::a25::a26::a27::a28::a29::a30::a31::a32::a33::a34::a35::a36::a37::a38::a39::a40::a41::a42::a43::a44::a45::a46::a47::a48::a49::a50::a51::a52::a53::a54::a55::a56::a57::a58::a59::a60::a61::a62::a63::a64::a65::a66::a67::a68::a69::m := by rw [← h]; rfl
theorem gtS {k : Nat} (h : l[k]? = some d) : (a0::a1::a2::a3::a4::a5::a6::a7::a8::a9::a10::a11::a12::a13::a14::a15::a16::a17::a18::a19::a20::a21::a22::a23::a24::a25::a26::a27::a28::a29::a30::a31::a32::a33::a34::a35::a36::a37::a38::a39::a40::a41::a42::a43::a44::a45::a46::a47::a48::a49::a50::a51::a52::a53::a54::a55::a56::a57::a58::a59::a60::a61::a62::a63::a64::a65::a66::a67::a68::a69::l)[k + 70]? = some d := h
theorem hg0 {h : AH} {n : Nat} (hn : h.length = n) {e0 : Ent} {l : AH} : (h ++ (e0 :: l))[n + 0]? = some e0 := by subst hn; simp
theorem hs0 {h : AH} {n : Nat} (hn : h.length = n) {e0 e : Ent} {l : AH} : (h ++ (e0 :: l)).set (n + 0) e = h ++ (e :: l) := by subst hn; simp
theorem hl0 {h : AH} {n : Nat} (hn : h.length = n) : (h ++ []).length = n + 0 := by subst hn; simp
theorem ha0 {h : AH} { e : Ent} : (h ++ []) ++ [e] = h ++ [e] := by simp
theorem hg1 {h : AH} {n : Nat} (hn : h.length = n) {e0 e1 : Ent} {l : AH} : (h ++ (e0 :: e1 :: l))[n + 1]? = some e1 := by subst hn; simp
theorem hs1 {h : AH} {n : Nat} (hn : h.length = n) {e0 e1 e : Ent} {l : AH} : (h ++ (e0 :: e1 :: l)).set (n + 1) e = h ++ (e0 :: e :: l) := by subst hn; simp
theorem hl1 {h : AH} {n : Nat} (hn : h.length = n) {e0 : Ent} : (h ++ [e0]).length = n + 1 := by subst hn; simp
theorem ha1 {h : AH} {e0 e : Ent} : (h ++ [e0]) ++ [e] = h ++ [e0, e] := by simp
theorem hg2 {h : AH} {n : Nat} (hn : h.length = n) {e0 e1 e2 : Ent} {l : AH} : (h ++ (e0 :: e1 :: e2 :: l))[n + 2]? = some e2 := by subst hn; simp
theorem hs2 {h : AH} {n : Nat} (hn : h.length = n) {e0 e1 e2 e : Ent} {l : AH} : (h ++ (e0 :: e1 :: e2 :: l)).set (n + 2) e = h ++ (e0 :: e1 :: e :: l) := by subst hn; simp
theorem hl2 {h : AH} {n : Nat} (hn : h.length = n) {e0 e1 : Ent} : (h ++ [e0, e1]).length = n + 2 := by subst hn; simp
theorem ha2 {h : AH} {e0 e1 e : Ent} : (h ++ [e0, e1]) ++ [e] = h ++ [e0, e1, e] := by simp
theorem hg3 {h : AH} {n : Nat} (hn : h.length = n) {e0 e1 e2 e3 : Ent} {l : AH} : (h ++ (e0 :: e1 :: e2 :: e3 :: l))[n + 3]? = some e3 := by subst hn; simp
theorem hs3 {h : AH} {n : Nat} (hn : h.length = n) {e0 e1 e2 e3 e : Ent} {l : AH} : (h ++ (e0 :: e1 :: e2 :: e3 :: l)).set (n + 3) e = h ++ (e0 :: e1 :: e2 :: e :: l) := by subst hn; simp
theorem hl3 {h : AH} {n : Nat} (hn : h.length = n) {e0 e1 e2 : Ent} : (h ++ [e0, e1, e2]).length = n + 3 := by subst hn; simp
theorem ha3 {h : AH} {e0 e1 e2 e : Ent} : (h ++ [e0, e1, e2]) ++ [e] = h ++ [e0, e1, e2, e] := by simp
theorem hg4 {h : AH} {n : Nat} (hn : h.length = n) {e0 e1 e2 e3 e4 : Ent} {l : AH} : (h ++ (e0 :: e1 :: e2 :: e3 :: e4 :: l))[n + 4]? = some e4 := by subst hn; simp
theorem hs4 {h : AH} {n : Nat} (hn : h.length = n) {e0 e1 e2 e3 e4 e : Ent} {l : AH} : (h ++ (e0 :: e1 :: e2 :: e3 :: e4 :: l)).set (n + 4) e = h ++ (e0 :: e1 :: e2 :: e3 :: e :: l) := by subst hn; simp
theorem hl4 {h : AH} {n : Nat} (hn : h.length = n) {e0 e1 e2 e3 : Ent} : (h ++ [e0, e1, e2, e3]).length = n + 4 := by subst hn; simp
theorem ha4 {h : AH} {e0 e1 e2 e3 e : Ent} : (h ++ [e0, e1, e2, e3]) ++ [e] = h ++ [e0, e1, e2, e3, e] := by simp
theorem hg5 {h : AH} {n : Nat} (hn : h.length = n) {e0 e1 e2 e3 e4 e5 : Ent} {l : AH} : (h ++ (e0 :: e1 :: e2 :: e3 :: e4 :: e5 :: l))[n + 5]? = some e5 := by subst hn; simp
theorem hs5 {h : AH} {n : Nat} (hn : h.length = n) {e0 e1 e2 e3 e4 e5 e : Ent} {l : AH} : (h ++ (e0 :: e1 :: e2 :: e3 :: e4 :: e5 :: l)).set (n + 5) e = h ++ (e0 :: e1 :: e2 :: e3 :: e4 :: e :: l) := by subst hn; simp
theorem hl5 {h : AH} {n : Nat} (hn : h.length = n) {e0 e1 e2 e3 e4 : Ent} : (h ++ [e0, e1, e2, e3, e4]).length = n + 5 := by subst hn; simp
theorem ha5 {h : AH} {e0 e1 e2 e3 e4 e : Ent} : (h ++ [e0, e1, e2, e3, e4]) ++ [e] = h ++ [e0, e1, e2, e3, e4, e] := by simp
theorem hg6 {h : AH} {n : Nat} (hn : h.length = n) {e0 e1 e2 e3 e4 e5 e6 : Ent} {l : AH} : (h ++ (e0 :: e1 :: e2 :: e3 :: e4 :: e5 :: e6 :: l))[n + 6]? = some e6 := by subst hn; simp
theorem hs6 {h : AH} {n : Nat} (hn : h.length = n) {e0 e1 e2 e3 e4 e5 e6 e : Ent} {l : AH} : (h ++ (e0 :: e1 :: e2 :: e3 :: e4 :: e5 :: e6 :: l)).set (n + 6) e = h ++ (e0 :: e1 :: e2 :: e3 :: e4 :: e5 :: e :: l) := by subst hn; simp
theorem hl6 {h : AH} {n : Nat} (hn : h.length = n) {e0 e1 e2 e3 e4 e5 : Ent} : (h ++ [e0, e1, e2, e3, e4, e5]).length = n + 6 := by subst hn; simp
theorem ha6 {h : AH} {e0 e1 e2 e3 e4 e5 e : Ent} : (h ++ [e0, e1, e2, e3, e4, e5]) ++ [e] = h ++ [e0, e1, e2, e3, e4, e5, e] := by simp
theorem hg7 {h : AH} {n : Nat} (hn : h.length = n) {e0 e1 e2 e3 e4 e5 e6 e7 : Ent} {l : AH} : (h ++ (e0 :: e1 :: e2 :: e3 :: e4 :: e5 :: e6 :: e7 :: l))[n + 7]? = some e7 := by subst hn; simp
theorem hs7 {h : AH} {n : Nat} (hn : h.length = n) {e0 e1 e2 e3 e4 e5 e6 e7 e : Ent} {l : AH} : (h ++ (e0 :: e1 :: e2 :: e3 :: e4 :: e5 :: e6 :: e7 :: l)).set (n + 7) e = h ++ (e0 :: e1 :: e2 :: e3 :: e4 :: e5 :: e6 :: e :: l) := by subst hn; simp
theorem hl7 {h : AH} {n : Nat} (hn : h.length = n) {e0 e1 e2 e3 e4 e5 e6 : Ent} : (h ++ [e0, e1, e2, e3, e4, e5, e6]).length = n + 7 := by subst hn; simp
theorem ha7 {h : AH} {e0 e1 e2 e3 e4 e5 e6 e : Ent} : (h ++ [e0, e1, e2, e3, e4, e5, e6]) ++ [e] = h ++ [e0, e1, e2, e3, e4, e5, e6, e] := by simp
theorem hg8 {h : AH} {n : Nat} (hn : h.length = n) {e0 e1 e2 e3 e4 e5 e6 e7 e8 : Ent} {l : AH} : (h ++ (e0 :: e1 :: e2 :: e3 :: e4 :: e5 :: e6 :: e7 :: e8 :: l))[n + 8]? = some e8 := by subst hn; simp
theorem hs8 {h : AH} {n : Nat} (hn : h.length = n) {e0 e1 e2 e3 e4 e5 e6 e7 e8 e : Ent} {l : AH} : (h ++ (e0 :: e1 :: e2 :: e3 :: e4 :: e5 :: e6 :: e7 :: e8 :: l)).set (n + 8) e = h ++ (e0 :: e1 :: e2 :: e3 :: e4 :: e5 :: e6 :: e7 :: e :: l) := by subst hn; simp
theorem hl8 {h : AH} {n : Nat} (hn : h.length = n) {e0 e1 e2 e3 e4 e5 e6 e7 : Ent} : (h ++ [e0, e1, e2, e3, e4, e5, e6, e7]).length = n + 8 := by subst hn; simp
theorem ha8 {h : AH} {e0 e1 e2 e3 e4 e5 e6 e7 e : Ent} : (h ++ [e0, e1, e2, e3, e4, e5, e6, e7]) ++ [e] = h ++ [e0, e1, e2, e3, e4, e5, e6, e7, e] := by simp
theorem hg9 {h : AH} {n : Nat} (hn : h.length = n) {e0 e1 e2 e3 e4 e5 e6 e7 e8 e9 : Ent} {l : AH} : (h ++ (e0 :: e1 :: e2 :: e3 :: e4 :: e5 :: e6 :: e7 :: e8 :: e9 :: l))[n + 9]? = some e9 := by subst hn; simp
theorem hs9 {h : AH} {n : Nat} (hn : h.length = n) {e0 e1 e2 e3 e4 e5 e6 e7 e8 e9 e : Ent} {l : AH} : (h ++ (e0 :: e1 :: e2 :: e3 :: e4 :: e5 :: e6 :: e7 :: e8 :: e9 :: l)).set (n + 9) e = h ++ (e0 :: e1 :: e2 :: e3 :: e4 :: e5 :: e6 :: e7 :: e8 :: e :: l) := by subst hn; simp
theorem hl9 {h : AH} {n : Nat} (hn : h.length = n) {e0 e1 e2 e3 e4 e5 e6 e7 e8 : Ent} : (h ++ [e0, e1, e2, e3, e4, e5, e6, e7, e8]).length = n + 9 := by subst hn; simp
theorem ha9 {h : AH} {e0 e1 e2 e3 e4 e5 e6 e7 e8 e : Ent} : (h ++ [e0, e1, e2, e3, e4, e5, e6, e7, e8]) ++ [e] = h ++ [e0, e1, e2, e3, e4, e5, e6, e7, e8, e] := by simp
theorem dp0 {l : List AV} : (l).drop 0 = l := rfl
theorem dp1 {a0 : AV} {l : List AV} : (a0 :: l).drop 1 = l := rfl
theorem dp2 {a0 a1 : AV} {l : List AV} : (a0 :: a1 :: l).drop 2 = l := rfl
theorem dp3 {a0 a1 a2 : AV} {l : List AV} : (a0 :: a1 :: a2 :: l).drop 3 = l := rfl
theorem dp4 {a0 a1 a2 a3 : AV} {l : List AV} : (a0 :: a1 :: a2 :: a3 :: l).drop 4 = l := rfl
theorem dp5 {a0 a1 a2 a3 a4 : AV} {l : List AV} : (a0 :: a1 :: a2 :: a3 :: a4 :: l).drop 5 = l := rfl
theorem dp6 {a0 a1 a2 a3 a4 a5 : AV} {l : List AV} : (a0 :: a1 :: a2 :: a3 :: a4 :: a5 :: l).drop 6 = l := rfl
theorem dp7 {a0 a1 a2 a3 a4 a5 a6 : AV} {l : List AV} : (a0 :: a1 :: a2 :: a3 :: a4 :: a5 :: a6 :: l).drop 7 = l := rfl
theorem dp8 {a0 a1 a2 a3 a4 a5 a6 a7 : AV} {l : List AV} : (a0 :: a1 :: a2 :: a3 :: a4 :: a5 :: a6 :: a7 :: l).drop 8 = l := rfl
theorem dp9 {a0 a1 a2 a3 a4 a5 a6 a7 a8 : AV} {l : List AV} : (a0 :: a1 :: a2 :: a3 :: a4 :: a5 :: a6 :: a7 :: a8 :: l).drop 9 = l := rfl
theorem dp10 {a0 a1 a2 a3 a4 a5 a6 a7 a8 a9 : AV} {l : List AV} : (a0 :: a1 :: a2 :: a3 :: a4 :: a5 :: a6 :: a7 :: a8 :: a9 :: l).drop 10 = l := rfl
theorem dp11 {a0 a1 a2 a3 a4 a5 a6 a7 a8 a9 a10 : AV} {l : List AV} : (a0 :: a1 :: a2 :: a3 :: a4 :: a5 :: a6 :: a7 :: a8 :: a9 :: a10 :: l).drop 11 = l := rfl
theorem dp12 {a0 a1 a2 a3 a4 a5 a6 a7 a8 a9 a10 a11 : AV} {l : List AV} : (a0 :: a1 :: a2 :: a3 :: a4 :: a5 :: a6 :: a7 :: a8 :: a9 :: a10 :: a11 :: l).drop 12 = l := rfl
theorem lki {T : List AV} {k : IntKind} {n : Int} : aEval T (.const (.int k n)) = .v (.int k n) := rfl
theorem lkb {T : List AV} {b : Bool} : aEval T (.const (.bool b)) = bv b := rfl
theorem lks {T : List AV} {s : ByteArray} : aEval T (.const (.string s)) = sv s := rfl
theorem lkn {T : List AV} : aEval T (.const (.slice none 0 0)) = .sl 0 0 true [] := rfl
theorem lkf {T : List AV} {f : FuncId} : aEval T (.func f) = .v (.func (.func f) #[] #[]) := rfl
theorem ptn {T : List AV} {c : AV} : aPut T none c = T := rfl
theorem mp0 {T : List AV} : ([] : List Operand).map (aEval T) = [] := rfl
theorem mp1 {T : List AV} {x : Operand} {a : AV} {xs : List Operand} {ats : List AV} (h : aEval T x = a) (hs : xs.map (aEval T) = ats) : (x :: xs).map (aEval T) = a :: ats := by rw [List.map_cons, h, hs]

end
end Go.Ab
