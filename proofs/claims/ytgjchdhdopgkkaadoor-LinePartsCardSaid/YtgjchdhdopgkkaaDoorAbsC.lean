/-
  Regions whose order is drawn, code and functions written out, on the proof's plain values. No condition.
-/
import Derived.Test.YtgjchdhdopgkkaaDoorAbsB
set_option linter.unusedVariables false
set_option linter.unusedSimpArgs false
namespace Go.Ab
section
variable {P : Program} {n0 : Nat} {ops : Array Oper}

/-- an operation that leaves the proof's heap alone, whatever the world -/
def AQuiet (P : Program) (o : Oper) (τ : Operand → AV) (h : AH) (c : AV) : Prop :=
  ∀ w g (ρ : Operand → Value), SimH w g h → (∀ x ∈ o.op.operands, Rep w g (τ x) (ρ x)) →
    (∃ v, (execOp ρ o).run P w = .ok (.value v) w ∧ Rep w g c v) ∨
    (∃ f vs, (execOp ρ o).run P w = .ok (.enter f vs) w ∧ Calls P f vs w fun e w' => ∃ v g', e = .returned v ∧ Rep w' g' c v ∧ SimH w' g' h ∧ g.le g' ∧ Fr w (Ow g h) w' ∧ ∀ k, Ow g' h k → Ow g h k ∨ w.heap.size ≤ k)
theorem AQuiet.congr {o : Oper} {τ τ' : Operand → AV} {h : AH} {c : AV} (hq : AQuiet P o τ h c) (he : ∀ x ∈ o.op.operands, τ x = τ' x) : AQuiet P o τ' h c :=
  fun w g ρ hs hr => hq w g ρ hs fun x hx => by rw [he x hx]; exact hr x hx
theorem aEval_put {T : List AV} {d : Option Nat} {c : AV} {x : Operand} (h : ∀ t, d = some t → x ≠ .tmp t) : aEval (aPut T d c) x = aEval T x := by
  cases d with
  | none => rfl
  | some t =>
    cases x with
    | tmp u =>
      have hne : t ≠ u := fun e => h t rfl (e ▸ rfl)
      simp [aEval, aPut, List.getElem?_set_ne hne]
    | _ => rfl
theorem AQuiet.put {o : Oper} {T : List AV} {d : Option Nat} {c c' : AV} {h : AH} (hd : ∀ t, d = some t → t ∉ o.looksAt ops) : AQuiet P o (aEval (aPut T d c')) h c ↔ AQuiet P o (aEval T) h c := by
  have he : ∀ x ∈ o.op.operands, aEval (aPut T d c') x = aEval T x := fun x hx => aEval_put fun t ht e => hd t ht (by
    subst e
    exact List.mem_append_left _ (List.mem_filterMap.2 ⟨.tmp t, by simpa using hx, rfl⟩))
  exact ⟨fun hq => hq.congr he, fun hq => hq.congr fun x hx => (he x hx).symm⟩

/-- is it wanted, as the proof's slots tell -/
def aWant (ops : Array Oper) (o : Oper) (T : List AV) : Option Bool :=
  match o.guard with
  | none => some true
  | some (j, want) => match (ops[j]?).bind (·.dst) with
    | none => none
    | some t => match T[t]? with
      | some (.v (.bool b)) => some (b == want)
      | some (.v (.tuple _)) => some false
      | _ => none
theorem aWant_put {o : Oper} {T : List AV} {d : Option Nat} {c : AV} (hd : ∀ t, d = some t → t ∉ o.looksAt ops) : aWant ops o (aPut T d c) = aWant ops o T := by
  cases d with
  | none => rfl
  | some t =>
    unfold aWant
    cases hg : o.guard with
    | none => rfl
    | some gw =>
      obtain ⟨j, want⟩ := gw
      dsimp only
      cases ht : (ops[j]?).bind (·.dst) with
      | none => rfl
      | some u =>
        have hne : t ≠ u := fun e => hd t rfl (by subst e; simp [Oper.looksAt, hg, ht])
        simp [aPut, List.getElem?_set_ne hne]
theorem aWant_spec {o : Oper} {T : List AV} {b : Bool} (hb : aWant ops o T = some b) {w : World} {g : Gh} {a : Act} (ht : RepL w g T a.tmps.toList) : Region.wanted o (yielded ops a.tmps) = b := by
  unfold aWant at hb
  split at hb
  · rename_i hn
    cases hb
    simp [Region.wanted, hn]
  · rename_i j want hn
    split at hb <;> try (cases hb; done)
    rename_i t hd
    split at hb <;> try (cases hb; done)
    · rename_i c hT
      cases hb
      obtain ⟨u, h1, h2⟩ := ht.get hT
      simp only [Rep] at h2
      subst h2
      have h1' : a.tmps[t]? = some (.bool c) := by simpa using h1
      simp only [Region.wanted, hn, yielded, hd]
      simp [h1']
    · rename_i vs hT
      cases hb
      obtain ⟨u, h1, h2⟩ := ht.get hT
      simp only [Rep] at h2
      subst h2
      have h1' : a.tmps[t]? = some (.tuple vs) := by simpa using h1
      simp only [Region.wanted, hn, yielded, hd]
      simp [h1']

theorem aPut_comm (T : List AV) {x y : Option Nat} (c d : AV) (h : ∀ t, x = some t → y ≠ some t) : aPut (aPut T x c) y d = aPut (aPut T y d) x c := by
  cases x with
  | none => rfl
  | some s =>
    cases y with
    | none => rfl
    | some t =>
      have hne : s ≠ t := fun he => h s rfl (he ▸ rfl)
      simp only [aPut]
      exact List.set_comm _ _ hne
theorem SimH.drew {w : World} {g : Gh} {h : AH} (hs : SimH w g h) : SimH w.drew g h := hs.world (fun _ _ => rfl) (Nat.le_refl _)
theorem St.drew {w0 : World} {S0 : Nat → Prop} {g0 : Gh} {T : List AV} {h : AH} {a : Act} {w : World} {g : Gh} (hs : St n0 w0 S0 g0 T h a w g) : St n0 w0 S0 g0 T h a w.drew g :=
  ⟨RepL.mono (w := w) (w' := w.drew) (Gh.le.refl g) (fun _ _ => rfl) _ _ hs.tmps, hs.defers, hs.sim.drew, ⟨hs.fr.os, hs.fr.tape, hs.fr.output, hs.fr.size, hs.fr.block⟩, hs.le, hs.bd, hs.ow⟩


def HExt (h0 h : AH) : Prop := ∀ (i : Nat) (e : Ent), h0[i]? = some e → h[i]? = some e
theorem HExt.refl (h : AH) : HExt h h := fun _ _ h => h
theorem HExt.append (h x : AH) : HExt h (h ++ x) := fun i e he => by
  rw [List.getElem?_append_left (List.getElem?_eq_some_iff.1 he).1]; exact he
theorem HExt.set {h0 h : AH} (hx : HExt h0 h) {id : Nat} (hid : h0.length ≤ id) (ent : Ent) : HExt h0 (h.set id ent) := fun i e he => by
  have : i < h0.length := (List.getElem?_eq_some_iff.1 he).1
  rw [List.getElem?_set_ne (by omega)]
  exact hx i e he

/-- an operation that makes one entry, in a place that is free -/
def AAlloc (P : Program) (o : Oper) (τ : Operand → AV) (id : Nat) (ent : Ent) (c : AV) : Prop :=
  ∀ w g (ρ : Operand → Value) (h : AH), SimH w g h → h[id]? = some .free → (∀ x ∈ o.op.operands, Rep w g (τ x) (ρ x)) →
    ∃ v w' g', (execOp ρ o).run P w = .ok (.value v) w' ∧ Rep w' g' c v ∧ SimH w' g' (h.set id ent) ∧ g.le g' ∧ Fr w (Ow g h) w' ∧ ∀ k, Ow g' (h.set id ent) k → Ow g h k ∨ w.heap.size ≤ k
theorem AAlloc.congr {o : Oper} {τ τ' : Operand → AV} {id : Nat} {ent : Ent} {c : AV} (hq : AAlloc P o τ id ent c) (he : ∀ x ∈ o.op.operands, τ x = τ' x) : AAlloc P o τ' id ent c :=
  fun w g ρ h hs hf hr => hq w g ρ h hs hf fun x hx => by rw [he x hx]; exact hr x hx
theorem aEval_looks {o : Oper} {T : List AV} {d : Option Nat} {c' : AV} (hd : ∀ t, d = some t → t ∉ o.looksAt ops) : ∀ x ∈ o.op.operands, aEval (aPut T d c') x = aEval T x :=
  fun x hx => aEval_put fun t ht e => hd t ht (by
    subst e
    exact List.mem_append_left _ (List.mem_filterMap.2 ⟨.tmp t, by simpa using hx, rfl⟩))
theorem AAlloc.put {o : Oper} {T : List AV} {d : Option Nat} {c c' : AV} {id : Nat} {ent : Ent} (hd : ∀ t, d = some t → t ∉ o.looksAt ops) : AAlloc P o (aEval (aPut T d c')) id ent c ↔ AAlloc P o (aEval T) id ent c :=
  ⟨fun hq => hq.congr (aEval_looks hd), fun hq => hq.congr fun x hx => (aEval_looks hd x hx).symm⟩

inductive YA where
  | fr | rd
  | rdE (id : Nat) (e : Ent)
  | alloc (id : Nat) (ent : Ent)
  | step (h h' : AH)
structure Yd where
  c : AV
  act : YA
/-- an operation at just such a heap -/
def AEff (P : Program) (o : Oper) (τ : Operand → AV) (h h' : AH) (c : AV) : Prop :=
  ∀ w g (ρ : Operand → Value), SimH w g h → (∀ x ∈ o.op.operands, Rep w g (τ x) (ρ x)) →
    (∃ n v w' g', (execOp ρ o).run P w = .ok n w' ∧ (n = .value v ∨ (n = .skip ∧ v = undef)) ∧ Rep w' g' c v ∧ SimH w' g' h' ∧ g.le g' ∧ Fr w (Ow g h) w' ∧ ∀ k, Ow g' h' k → Ow g h k ∨ w.heap.size ≤ k) ∨
    (∃ f vs, (execOp ρ o).run P w = .ok (.enter f vs) w ∧ Calls P f vs w fun e w' => ∃ v g', e = .returned v ∧ Rep w' g' c v ∧ SimH w' g' h' ∧ g.le g' ∧ Fr w (Ow g h) w' ∧ ∀ k, Ow g' h' k → Ow g h k ∨ w.heap.size ≤ k)
theorem AEff.congr {o : Oper} {τ τ' : Operand → AV} {h h' : AH} {c : AV} (hq : AEff P o τ h h' c) (he : ∀ x ∈ o.op.operands, τ x = τ' x) : AEff P o τ' h h' c :=
  fun w g ρ hs hr => hq w g ρ hs fun x hx => by rw [he x hx]; exact hr x hx
/-- what an operation of a drawn region leaves -/
def YD (P : Program) (ops : Array Oper) (h0 : AH) (o : Oper) (y : Yd) (T : List AV) : Prop :=
  (aWant ops o T = some true ∧ match y.act with
    | .fr => ∀ h, AQuiet P o (aEval T) h y.c
    | .rd => ∀ h, HExt h0 h → AQuiet P o (aEval T) h y.c
    | .rdE id e => ∀ h, h[id]? = some e → AQuiet P o (aEval T) h y.c
    | .alloc id ent => h0.length ≤ id ∧ AAlloc P o (aEval T) id ent y.c
    | .step h h' => AEff P o (aEval T) h h' y.c) ∨ (aWant ops o T = some false ∧ y = ⟨.v undef, .fr⟩)
def Yd.eff (y : Yd) (h : AH) : AH := match y.act with
  | .fr => h
  | .rd => h
  | .rdE _ _ => h
  | .alloc id ent => h.set id ent
  | .step _ h' => h'
def Yd.okAt (h0 : AH) (y : Yd) (h : AH) : Prop := match y.act with
  | .fr => True
  | .rd => HExt h0 h
  | .rdE id e => h[id]? = some e
  | .alloc id _ => h0.length ≤ id ∧ HExt h0 h ∧ h[id]? = some .free
  | .step h1 _ => h = h1
theorem YD.put {h0 : AH} {o : Oper} {y : Yd} {c' : AV} {T : List AV} {d : Option Nat} (hd : ∀ t, d = some t → t ∉ o.looksAt ops) : YD P ops h0 o y (aPut T d c') ↔ YD P ops h0 o y T := by
  unfold YD
  rw [aWant_put hd]
  cases y.act with
  | fr =>
    dsimp only
    rw [show (∀ h, AQuiet P o (aEval (aPut T d c')) h y.c) ↔ (∀ h, AQuiet P o (aEval T) h y.c) from forall_congr' fun h => AQuiet.put hd]
  | rd =>
    dsimp only
    rw [show (∀ h, HExt h0 h → AQuiet P o (aEval (aPut T d c')) h y.c) ↔ (∀ h, HExt h0 h → AQuiet P o (aEval T) h y.c) from forall_congr' fun h => imp_congr_right fun _ => AQuiet.put hd]
  | rdE id e =>
    dsimp only
    rw [show (∀ h, h[id]? = some e → AQuiet P o (aEval (aPut T d c')) h y.c) ↔ (∀ h, h[id]? = some e → AQuiet P o (aEval T) h y.c) from forall_congr' fun h => imp_congr_right fun _ => AQuiet.put hd]
  | alloc id ent =>
    dsimp only
    rw [AAlloc.put hd]
  | step h h' =>
    dsimp only
    rw [show AEff P o (aEval (aPut T d c')) h h' y.c ↔ AEff P o (aEval T) h h' y.c from ⟨fun hq => hq.congr (aEval_looks hd), fun hq => hq.congr fun x hx => (aEval_looks hd x hx).symm⟩]

def qOpD (P : Program) (ops : Array Oper) (h0 : AH) (tr : Nat → Yd) (i : Nat) (K : List AV → AH → Prop) (T : List AV) (h : AH) : Prop :=
  match ops[i]? with
  | none => K T h
  | some o => YD P ops h0 o (tr i) T ∧ (tr i).okAt h0 h ∧ K (aPut T o.dst (tr i).c) ((tr i).eff h)
theorem qOpD_mono {h0 : AH} {tr : Nat → Yd} {i : Nat} {T : List AV} {h : AH} {K K' : List AV → AH → Prop} (hk : ∀ T h, K T h → K' T h) (hq : qOpD P ops h0 tr i K T h) : qOpD P ops h0 tr i K' T h := by
  unfold qOpD at *
  split
  · rename_i ho; simp only [ho] at hq; exact hk _ _ hq
  · rename_i o ho
    simp only [ho] at hq
    exact ⟨hq.1, hq.2.1, hk _ _ hq.2.2⟩
/-- the operations, in whatever order -/
def wpAnyD (P : Program) (md : Region.Mode) (ops : Array Oper) (h0 : AH) (tr : Nat → Yd) (K : List AV → AH → Prop) : Nat → Array Bool → List AV → AH → Prop
  | 0, listed, T, h => Region.ready md ops listed = [] ∧ K T h
  | fuel + 1, listed, T, h => (Region.ready md ops listed = [] → K T h) ∧
    ∀ i ∈ Region.ready md ops listed, qOpD P ops h0 tr i (wpAnyD P md ops h0 tr K fuel (listed.setIfInBounds i true)) T h

/-- two yields that may change places -/
def Compat (y z : Yd) : Prop := match y.act, z.act with
  | .fr, _ => True
  | _, .fr => True
  | .rdE id _, .step h1 h2 => h2[id]? = h1[id]?
  | .step h1 h2, .rdE id _ => h2[id]? = h1[id]?
  | .step _ _, _ => False
  | _, .step _ _ => False
  | .alloc a _, .alloc b _ => a ≠ b
  | .rdE id _, .alloc a _ => a ≠ id
  | .alloc a _, .rdE id _ => a ≠ id
  | _, _ => True
theorem HExt.set_iff {h0 h : AH} {id : Nat} (hid : h0.length ≤ id) (ent : Ent) : HExt h0 (h.set id ent) ↔ HExt h0 h :=
  ⟨fun hx i e he => by
    have : i < h0.length := (List.getElem?_eq_some_iff.1 he).1
    have := hx i e he
    rw [List.getElem?_set_ne (by omega)] at this
    exact this, fun hx => hx.set hid ent⟩
/-- what is yielded in one order is yielded in the other -/
theorem Compat.swap {h0 : AH} {y z : Yd} (hc : Compat y z) {h : AH} (hy : y.okAt h0 h) (hz : z.okAt h0 (y.eff h)) : z.okAt h0 h ∧ y.okAt h0 (z.eff h) ∧ y.eff (z.eff h) = z.eff (y.eff h) := by
  obtain ⟨c, ya⟩ := y
  obtain ⟨d, za⟩ := z
  cases ya <;> cases za <;> simp only [Compat] at hc <;> simp only [Yd.okAt, Yd.eff] at hy hz ⊢
  case fr.fr => exact ⟨trivial, trivial, trivial⟩
  case fr.rd => exact ⟨hz, trivial, trivial⟩
  case fr.alloc => exact ⟨hz, trivial, trivial⟩
  case fr.step => exact ⟨hz, trivial, trivial⟩
  case rd.fr => exact ⟨trivial, hy, trivial⟩
  case rd.rd => exact ⟨hz, hy, trivial⟩
  case rd.alloc id ent => exact ⟨hz, (HExt.set_iff hz.1 ent).2 hy, trivial⟩
  case alloc.fr => exact ⟨trivial, hy, trivial⟩
  case alloc.rd id ent => exact ⟨hy.2.1, hy, trivial⟩
  case alloc.alloc a e b f =>
    obtain ⟨y1, y2, y3⟩ := hy
    obtain ⟨z1, z2, z3⟩ := hz
    rw [List.getElem?_set_ne hc] at z3
    exact ⟨⟨z1, y2, z3⟩, ⟨y1, y2.set z1 f, by rw [List.getElem?_set_ne (Ne.symm hc)]; exact y3⟩, List.set_comm _ _ (Ne.symm hc)⟩
  case step.fr => exact ⟨trivial, hy, trivial⟩
  case fr.rdE => exact ⟨hz, trivial, trivial⟩
  case rd.rdE => exact ⟨hz, hy, trivial⟩
  case rdE.fr => exact ⟨trivial, hy, trivial⟩
  case rdE.rd => exact ⟨hz, hy, trivial⟩
  case rdE.rdE => exact ⟨hz, hy, trivial⟩
  case rdE.alloc id e a f => exact ⟨hz, by rw [List.getElem?_set_ne hc]; exact hy, trivial⟩
  case alloc.rdE a f id e => exact ⟨by rw [List.getElem?_set_ne hc] at hz; exact hz, hy, trivial⟩
  case rdE.step id e h1 h2 => exact ⟨hz, by rw [hc, ← hz]; exact hy, trivial⟩
  case step.rdE h1 h2 id e => exact ⟨by rw [hy, ← hc]; exact hz, hy, trivial⟩
theorem qOpD_put {h0 : AH} {tr : Nat → Yd} {i j : Nat} {oi oj : Oper} (hj : ops[j]? = some oj) (hap : oi.apart ops oj = true) (hne : Compat (tr i) (tr j)) {K : List AV → AH → Prop} {T : List AV} {h : AH}
    (hy : YD P ops h0 oi (tr i) T) (hok : (tr i).okAt h0 h) (hq : qOpD P ops h0 tr j K (aPut T oi.dst (tr i).c) ((tr i).eff h)) :
    qOpD P ops h0 tr j (fun T' h' => YD P ops h0 oi (tr i) T' ∧ (tr i).okAt h0 h' ∧ K (aPut T' oi.dst (tr i).c) ((tr i).eff h')) T h := by
  obtain ⟨h1, h2, h3⟩ := Oper.apart_spec hap
  unfold qOpD at *
  simp only [hj] at *
  obtain ⟨q1, q2, q3⟩ := hq
  obtain ⟨s1, s2, s3⟩ := hne.swap hok q2
  exact ⟨(YD.put h1).1 q1, s1, (YD.put h3).2 hy, s2, by rw [← aPut_comm T _ _ h2, s3]; exact q3⟩

/-- what an operation waits for, through others too -/
def anc (md : Region.Mode) (ops : Array Oper) (i : Nat) : Nat → List Nat
  | 0 => match ops[i]? with
    | some o => o.after.toList.filterMap fun e => if Region.binds md e then some e.on else none
    | none => []
  | n + 1 => let S := anc md ops i n
    (S ++ S.flatMap fun j => match ops[j]? with
      | some o => o.after.toList.filterMap fun e => if Region.binds md e then some e.on else none
      | none => []).eraseDups
def Closed (md : Region.Mode) (ops : Array Oper) (listed : Array Bool) : Prop := ∀ (k : Nat) (o : Oper), ops[k]? = some o → listed.getD k true = true → ∀ e ∈ o.after, Region.binds md e = true → listed.getD e.on false = true
theorem anc_listed {md : Region.Mode} {listed : Array Bool} (hc : Closed md ops listed) {i : Nat} (hi : i ∈ Region.ready md ops listed) : ∀ (n : Nat), ∀ j ∈ anc md ops i n, listed.getD j false = true
  | 0, j, hj => by
    obtain ⟨_, o, ho, hall⟩ := mem_ready.1 hi
    simp only [anc, ho, List.mem_filterMap] at hj
    obtain ⟨e, he, h1⟩ := hj
    split at h1 <;> try (cases h1; done)
    rename_i hb
    cases h1
    exact hall e (by simpa using he) hb
  | n + 1, j, hj => by
    have ih := anc_listed hc hi n
    simp only [anc] at hj
    have hj' := List.mem_eraseDups.1 hj
    rcases List.mem_append.1 hj' with h1 | h1
    · exact ih j h1
    · obtain ⟨k, hk, h2⟩ := List.mem_flatMap.1 h1
      split at h2
      · rename_i o ho
        obtain ⟨e, he, h3⟩ := List.mem_filterMap.1 h2
        split at h3 <;> try (cases h3; done)
        rename_i hb
        cases h3
        have hkl := ih k hk
        have hkl' : listed.getD k true = true := by
          rcases Nat.lt_or_ge k listed.size with h' | h'
          · simp [h'] at hkl ⊢; exact hkl
          · simp [Array.getElem?_eq_none h'] at hkl
        exact hc k o ho hkl' e (by simpa using he) hb
      · simp at h2
theorem Closed.set {md : Region.Mode} {listed : Array Bool} (hc : Closed md ops listed) {i : Nat} (hi : i ∈ Region.ready md ops listed) : Closed md ops (listed.setIfInBounds i true) := by
  intro k o ho hk e he hb
  by_cases hki : i = k
  · subst hki
    obtain ⟨_, o', ho', hall⟩ := mem_ready.1 hi
    rw [ho] at ho'
    cases ho'
    exact getD_set_true (hall e he hb)
  · rw [getD_set_ne true hki] at hk
    exact getD_set_true (hc k o ho hk e he hb)

theorem wpAnyD_first {md : Region.Mode} {h0 : AH} {tr : Nat → Yd} {K : List AV → AH → Prop} {i : Nat} {oi : Oper} (hi : ops[i]? = some oi) :
    ∀ (fuel : Nat) (listed : Array Bool) (T : List AV) (h : AH), Closed md ops listed →
      (∀ j oj, ops[j]? = some oj → j ≠ i → listed.getD j true = false → (∃ n, i ∈ anc md ops j n) ∨ (oi.apart ops oj = true ∧ Compat (tr i) (tr j))) →
      i ∈ Region.ready md ops listed → YD P ops h0 oi (tr i) T → (tr i).okAt h0 h →
      wpAnyD P md ops h0 tr K fuel (listed.setIfInBounds i true) (aPut T oi.dst (tr i).c) ((tr i).eff h) → wpAnyD P md ops h0 tr K (fuel + 1) listed T h := by
  intro fuel
  induction fuel with
  | zero =>
    intro listed T h hc _ hr hy hok H
    refine ⟨(fun h => by rw [h] at hr; cases hr), fun j hj => ?_⟩
    by_cases hji : j = i
    · subst hji; unfold qOpD; simp only [hi]; exact ⟨hy, hok, H⟩
    · have := ready_mono hj hji
      rw [H.1] at this
      cases this
  | succ fuel ih =>
    intro listed T h hc hpair hr hy hok H
    refine ⟨(fun h => by rw [h] at hr; cases hr), fun j hj => ?_⟩
    by_cases hji : j = i
    · subst hji; unfold qOpD; simp only [hi]; exact ⟨hy, hok, H⟩
    · have h1 := H.2 j (ready_mono hj hji)
      obtain ⟨hjun, oj, hoj, hall⟩ := mem_ready.1 hj
      rcases hpair j oj hoj hji hjun with ⟨n, hn⟩ | ⟨hap, hco⟩
      · have h1 := anc_listed hc hj n i hn
        have h2 := (mem_ready.1 hr).1
        rcases Nat.lt_or_ge i listed.size with h' | h'
        · simp [h'] at h1 h2; rw [h2] at h1; cases h1
        · simp [Array.getElem?_eq_none h'] at h1
      have h2 := qOpD_put hoj hap hco hy hok h1
      have hpair' : ∀ k ok, ops[k]? = some ok → k ≠ i → (listed.setIfInBounds j true).getD k true = false → (∃ n, i ∈ anc md ops k n) ∨ (oi.apart ops ok = true ∧ Compat (tr i) (tr k)) := fun k ok hk hki hun => by
        refine hpair k ok hk hki ?_
        by_cases hjk : j = k
        · subst hjk; exact hjun
        · rw [getD_set_ne true hjk] at hun; exact hun
      refine qOpD_mono (fun T' h' h3 => ih (listed.setIfInBounds j true) T' h' (hc.set hj) hpair' (ready_mono hr (Ne.symm hji)) h3.1 h3.2.1 ?_) h2
      rw [Array.setIfInBounds_comm _ _ hji]
      exact h3.2.2

end
section
variable {P : Program} {n0 : Nat} {ops : Array Oper}
/-- a new row, in a place that is free -/
theorem SimH.allocAt {w : World} {g : Gh} {h : AH} (hs : SimH w g h) {id : Nat} (hfr : h[id]? = some .free) {arr : Array Value} {cells : List AV} (ty stride cap : Nat) (hr : RepL w g cells (arr.toList.take cells.length)) (hl : cells.length ≤ arr.size) (hsz : arr.size = cap * stride) (hm : cap ≤ maxLen) (hc : cap = 0 → cells = []) :
    SimH (w.alloc (.cells arr ty)) (g.add id 0 (some ⟨w.heap.size, 0, none⟩, cap)) (h.set id (.mk 0 ty stride cells)) ∧ g.le (g.add id 0 (some ⟨w.heap.size, 0, none⟩, cap)) ∧
      Fr w (Ow g h) (w.alloc (.cells arr ty)) ∧ ∀ k, Ow (g.add id 0 (some ⟨w.heap.size, 0, none⟩, cap)) (h.set id (.mk 0 ty stride cells)) k → Ow g h k ∨ w.heap.size ≤ k := by
  have hid : id < h.length := (List.getElem?_eq_some_iff.1 hfr).1
  have hf : ∀ v l, g.loc id v = some l → False := fun v l hl => hs.free _ _ _ hl hfr
  have hloc : ∀ i v l, g.loc i v = some l → (g.add id 0 (some ⟨w.heap.size, 0, none⟩, cap)).loc i v = some l := by
    intro i v l hi
    simp only [Gh.add]
    rw [if_neg]
    · exact hi
    · rintro ⟨rfl, rfl⟩; exact hf _ _ hi
  have hle : g.le (g.add id 0 (some ⟨w.heap.size, 0, none⟩, cap)) := Gh.le_of_put rfl hloc
  have hold : ∀ k, k < w.heap.size → (w.alloc (.cells arr ty)).heap[k]? = w.heap[k]? := fun k hk => heap_alloc_old w _ k hk
  have how : ∀ k, g.D k ∨ (∃ i, i ≠ id ∧ OwAt g h i k) → k < w.heap.size := by
    rintro k (hk | ⟨i, _, hk⟩)
    · exact hs.lt k hk
    · exact (hs.own_not_D ⟨i, hk⟩).2
  suffices hq : SimH (w.alloc (.cells arr ty)) (g.add id 0 (some ⟨w.heap.size, 0, none⟩, cap)) (h.set id (.mk 0 ty stride cells)) ∧ g.le (g.add id 0 (some ⟨w.heap.size, 0, none⟩, cap)) ∧
      ∀ k, Ow (g.add id 0 (some ⟨w.heap.size, 0, none⟩, cap)) (h.set id (.mk 0 ty stride cells)) k → Ow g h k ∨ ((some (⟨w.heap.size, 0, none⟩ : Addr)).map (·.block) = some k ∧ cap ≠ 0) from ⟨hq.1, hq.2.1, ⟨rfl, rfl, rfl, by simp, fun k hk _ => hold k hk⟩, fun k hk => (hq.2.2 k hk).imp (fun x => x) (fun h => by have := h.1; simp at this; omega)⟩
  refine hs.put id 0 ty stride cells (some ⟨w.heap.size, 0, none⟩) cap ?_ ?_ ?_ rfl hloc ?_ ?_ (fun v l hl => (hf v l hl).elim) (fun k hk => hold k (how k hk)) (by simp) hm ?_ ?_
  · intro i hi
    rw [List.getElem?_set_ne (Ne.symm hi)]
  · rw [List.getElem?_set_self hid]
  · simp
  · intro i v l hi
    simp only [Gh.add] at hi
    split at hi
    · right; assumption
    · left; exact hi
  · simp [Gh.add]
  · by_cases h0 : cap = 0
    · exact .inl ⟨hc h0, h0⟩
    · exact .inr ⟨w.heap.size, arr, rfl, h0, fun hd => absurd (hs.lt _ hd) (Nat.lt_irrefl _), heap_alloc_new w _, hsz, hl, RepL.mono hle (fun k hk => hold k (hs.lt k hk)) _ _ hr⟩
  · intro k hk _ i _ how
    simp at hk
    subst hk
    exact absurd (hs.own_not_D ⟨i, how⟩).2 (Nat.lt_irrefl _)

/-- an operation of a drawn region that makes an entry -/
def aallo (id : Nat) (τ : Operand → AV) : AOp → Option (AV × Ent)
  | .new ty sz zero => some (.ptr id 0 0, .mk 0 ty sz zero)
  | .box ty sz x => match cellsV (τ x) with
    | some cs => if cs.length = sz then some (.ptr id 0 0, .mk 0 ty sz cs) else none
    | none => none
  | .lit ty st len zero ps => match fillAV τ ps zero with
    | some cs => some (.own id 0 len, .mk 0 ty st cs)
    | none => none
  | _ => none
/-- what is made so is sound -/
def LSound (P : Program) (o : Oper) (ao : AOp) : Prop := ∀ (id : Nat) (τ : Operand → AV) (c : AV) (ent : Ent), aallo id τ ao = some (c, ent) → AAlloc P o τ id ent c
theorem lsnd_new {dst type pos after guard} {e : TypeId} {i : TypeInfo} {z : List AV} (hi : P.info? e = some i) (hz : zeroOf P e = some z) : LSound P ⟨dst, .alloc e, type, pos, after, guard⟩ (.new e i.size z) := by
  intro id τ c ent hv w g ρ h hs hfr hr
  obtain ⟨i', v, hi', hzv, hsz, rfl⟩ := zeroOf_spec hz
  rw [hi] at hi'
  cases hi'
  simp only [aallo, Option.some.injEq, Prod.mk.injEq] at hv
  obtain ⟨rfl, rfl⟩ := hv
  obtain ⟨h1, h2, h3, h4⟩ := hs.allocAt hfr (arr := v.cells) (cells := v.cells.toList.map AV.ofCell) e i.size 1 (by have := repL_ofCell w g v.cells.toList; rw [List.take_of_length_le (by simp)]; exact this) (by simp) (by omega) (by simp [maxLen]) (by simp)
  exact ⟨_, _, _, by simp [execOp, Instr.alloc, zeroValue, typeInfo, hi, hzv, newVar, newRow], rep_ptr_new, h1, h2, h3, h4⟩
theorem lsnd_box {dst type pos after guard} {e : TypeId} {sz : Nat} (x : Operand) : LSound P ⟨dst, .box e x, type, pos, after, guard⟩ (.box e sz x) := by
  intro id τ c ent hv w g ρ h hs hfr hr
  simp only [aallo] at hv
  split at hv <;> try (cases hv; done)
  rename_i cs hcs
  split at hv <;> try (cases hv; done)
  rename_i hsz
  simp only [Option.some.injEq, Prod.mk.injEq] at hv
  obtain ⟨rfl, rfl⟩ := hv
  have hrl := cellsV_rep hcs (hr x (by simp [Op.operands]))
  have hlen : (ρ x).cells.size = cs.length := by simpa using hrl.length
  obtain ⟨h1, h2, h3, h4⟩ := hs.allocAt hfr (arr := (ρ x).cells) (cells := cs) e sz 1 (by rw [List.take_of_length_le (by simp [hlen])]; exact hrl) (by omega) (by omega) (by simp [maxLen]) (by simp)
  exact ⟨_, _, _, by simp [execOp, Instr.box, newVar, newRow], rep_ptr_new, h1, h2, h3, h4⟩
theorem lsnd_lit0 {dst type pos after guard} {t e : TypeId} {i : TypeInfo} (hu : P.underlying t = some (.slice e)) (hi : P.info? e = some i) :
    LSound P ⟨dst, .buildSlice t 0 #[], type, pos, after, guard⟩ (.lit e i.size 0 [] []) := by
  intro id τ c ent hv w g ρ h hs hfr hr
  simp only [aallo, fillAV, Option.some.injEq, Prod.mk.injEq] at hv
  obtain ⟨rfl, rfl⟩ := hv
  obtain ⟨k1, k2, k3, k4⟩ := hs.allocAt hfr (arr := #[]) (cells := []) e i.size 0 (by simp only [List.length_nil, List.take_zero, RepL]) (by simp) (by simp) (by simp [maxLen]) (fun _ => rfl)
  refine ⟨.slice (some ⟨w.heap.size, 0, none⟩) 0 0, _, _, ?_, rep_own_new (Nat.le_refl _) (by simp [maxLen]), k1, k2, k3, k4⟩
  have hempty : (Array.range 0).map (fun x => (#[] : Array Value)[x % (#[] : Array Value).size]!) = #[] := Array.size_eq_zero_iff.1 (by simp)
  simp only [execOp, Instr.buildSlice, Sem.run_bind, run_underlying hu, Result.andThen_ok, run_sizeOf hi, Nat.zero_mul]
  simp only [show ¬ (0 > 2 ^ 24) by omega, if_false, if_true, Sem.run_bind, Sem.run_pure, Result.andThen_ok, hempty]
  simp [newRow, Instr.fill]
theorem lsnd_lit {dst type pos after guard} {t e : TypeId} {i : TypeInfo} {z : Value} {n : Nat} {ps : Array (Nat × Operand)} (hu : P.underlying t = some (.slice e)) (hi : P.info? e = some i) (hz : i.zero = some z) (hb : n * i.size ≤ 16777216) (hn0 : n ≠ 0) (hnm : n ≤ maxLen) :
    LSound P ⟨dst, .buildSlice t n ps, type, pos, after, guard⟩ (.lit e i.size n (litZero z.cells (n * i.size)) (ps.toList.map fun p => (p.1 * i.size, i.size, p.2))) := by
  intro id τ c ent hv w g ρ h hs hfr hr
  simp only [aallo] at hv
  split at hv <;> try (cases hv; done)
  rename_i cs hcs
  simp only [Option.some.injEq, Prod.mk.injEq] at hv
  obtain ⟨rfl, rfl⟩ := hv
  have hops : ∀ p ∈ ps.toList, Rep w g (τ p.2) (ρ p.2) := fun p hp => hr p.2 (by simp only [Op.operands]; simp; exact ⟨p.1, by simpa using hp⟩)
  obtain ⟨arr', h1, h2, h3⟩ := fill_rep (w := w) (g := g) (τ := τ) (ρ := ρ) (fun k => some (k * i.size, i.size)) ps.toList _ _ ((Array.range (n * i.size)).map (z.cells[· % z.cells.size]!)) cs (by simp) hops hcs (repL_ofCell w g _)
  have hsz : arr'.size = n * i.size := by rw [h3]; simp
  have hcl : cs.length = arr'.size := by have := h2.length; simpa using this.symm
  obtain ⟨k1, k2, k3, k4⟩ := hs.allocAt hfr (arr := arr') (cells := cs) e i.size n (by rw [List.take_of_length_le (by simp [hcl])]; exact h2) (by omega) hsz hnm (fun h => absurd h hn0)
  have hpl : (ps.map fun (x : Nat × Operand) => (x.1, ρ x.2)).toList = ps.toList.map fun p => (p.1, ρ p.2) := by simp
  refine ⟨.slice (some ⟨w.heap.size, 0, none⟩) n n, _, _, ?_, rep_own_new (Nat.le_refl _) hnm, k1, k2, k3, k4⟩
  by_cases hzero : n * i.size = 0
  · have harr : ((Array.range (n * i.size)).map (z.cells[· % z.cells.size]!)) = #[] := Array.size_eq_zero_iff.1 (by simp [hzero])
    have hempty : (Array.range 0).map (fun x => (#[] : Array Value)[x % (#[] : Array Value).size]!) = #[] := Array.size_eq_zero_iff.1 (by simp)
    rw [harr] at h1
    simp only [execOp, Instr.buildSlice, Sem.run_bind, run_underlying hu, Result.andThen_ok, run_sizeOf hi, hzero]
    simp only [show ¬ (0 > 2 ^ 24) by omega, if_false, if_true, Sem.run_bind, Sem.run_pure, Result.andThen_ok, hpl, hempty, h1]
    simp [newRow]
  · simp only [execOp, Instr.buildSlice, Sem.run_bind, run_underlying hu, Result.andThen_ok, run_sizeOf hi, show ¬ (n * i.size > 2 ^ 24) by omega, if_false, hzero]
    simp only [zeroValue, typeInfo, Sem.run_bind, run_program, Result.andThen_ok, hi, hz, Sem.run_pure, hpl, h1]
    simp [newRow]
theorem LSound.none {o : Oper} {ao : AOp} (h : ∀ id τ, aallo id τ ao = none) : LSound P o ao := by intro id τ c ent hv; rw [h] at hv; cases hv
theorem compOp_lsound {o : Oper} {ao : AOp} (h : compOp P o = some ao) : LSound P o ao := by
  cases hk : ao with
  | new ty sz z =>
    subst hk
    obtain ⟨dst, op, type, pos, after, guard⟩ := o
    cases op <;> simp only [compOp] at h <;> try (cases h; done)
    case alloc e =>
      split at h <;> try (cases h; done)
      rename_i i z hi hz
      cases h; exact lsnd_new hi hz
    all_goals (exfalso; (try unfold compBin at h); (try unfold compCvt at h); (try unfold compCall at h); (repeat' split at h) <;> first | (cases h; done) | (simp [Option.map_eq_some_iff] at h; done) | (simp_all; done))
  | box ty sz x =>
    subst hk
    obtain ⟨dst, op, type, pos, after, guard⟩ := o
    cases op <;> simp only [compOp] at h <;> try (cases h; done)
    case box e x =>
      simp only [Option.map_eq_some_iff] at h
      obtain ⟨i, hi, h⟩ := h
      cases h; exact lsnd_box _
    all_goals (exfalso; (try unfold compBin at h); (try unfold compCvt at h); (try unfold compCall at h); (repeat' split at h) <;> first | (cases h; done) | (simp [Option.map_eq_some_iff] at h; done) | (simp_all; done))
  | lit ty st len zero ps =>
    subst hk
    obtain ⟨dst, op, type, pos, after, guard⟩ := o
    cases op <;> simp only [compOp] at h <;> try (cases h; done)
    case buildSlice t n ps =>
      split at h <;> try (cases h; done)
      rename_i e hu
      split at h <;> try (cases h; done)
      rename_i i hi
      split at h <;> try (cases h; done)
      rename_i z hz
      split at h
      · rename_i hc
        obtain ⟨rfl, rfl⟩ := hc
        cases h; exact lsnd_lit0 hu hi
      · split at h <;> try (cases h; done)
        rename_i hc
        obtain ⟨h0, hm, hb⟩ := hc
        cases h; exact lsnd_lit hu hi hz hb h0 hm
    all_goals (exfalso; (try unfold compBin at h); (try unfold compCvt at h); (try unfold compCall at h); (repeat' split at h) <;> first | (cases h; done) | (simp [Option.map_eq_some_iff] at h; done) | (simp_all; done))
  | _ => exact .none fun _ _ => rfl
/-- a literal that is from its birth on read alone -/
def aalloI (id : Nat) (τ : Operand → AV) : AOp → Option (AV × Ent)
  | .lit _ st len zero ps => match fillAV τ ps zero with
    | some cs => if cs.length = len * st then some (.sl len st false cs, .gone) else none
    | none => none
  | _ => none
theorem lsoundI {o : Oper} {ao : AOp} (hl : LSound P o ao) : ∀ (id : Nat) (τ : Operand → AV) (c : AV) (ent : Ent), aalloI id τ ao = some (c, ent) → AAlloc P o τ id ent c := by
  intro id τ c ent hv
  cases ao <;> simp only [aalloI] at hv <;> try (cases hv; done)
  rename_i ty st len zero ps
  split at hv <;> try (cases hv; done)
  rename_i cs hcs
  split at hv <;> try (cases hv; done)
  rename_i hlen
  cases hv
  have hA := hl id τ (.own id 0 len) (.mk 0 ty st cs) (by simp only [aallo, hcs])
  intro w g ρ h hs hfr hr
  obtain ⟨v, w', g', k1, k2, k3, k4, k5, k6⟩ := hA w g ρ h hs hfr hr
  have hid : id < h.length := (List.getElem?_eq_some_iff.1 hfr).1
  obtain ⟨q1, q2, q3⟩ := k3.ice (List.getElem?_set_self hid)
  rw [List.set_set] at q1 q2
  refine ⟨v, w', _, k1, ?_, q1, k4.trans (Gh.le_ice _ _ _), k5, fun k hk => k6 k (q2 k hk)⟩
  have := q3 len v (by omega) k2
  rw [List.take_of_length_le (by omega)] at this
  exact this
theorem compOpS_lsound {S : List Nat} {o : Oper} {ao : AOp} (h : compOpS P S o = some ao) : LSound P o ao := by
  unfold compOpS at h
  split at h <;> split at h
  all_goals first
    | exact compOp_lsound h
    | (simp only [Option.map_eq_some_iff] at h
       obtain ⟨a, h1, rfl⟩ := h
       have := compOp_lsound h1
       cases a <;> first | exact this | exact .none fun _ _ => rfl)

end
section
variable {P : Program} {n0 : Nat} {ops : Array Oper}

theorem cellsAt_ext {h0 h : AH} (hx : HExt h0 h) {c : AV} {cs : List AV} (hc : cellsAt h0 c = some cs) : cellsAt h c = some cs := by
  cases c <;> simp only [cellsAt] at hc ⊢ <;> try (exact hc)
  rename_i id ver off
  cases he : h0[id]? with
  | none => simp [he] at hc
  | some e => rw [hx id e he]; rw [he] at hc; exact hc
theorem rowsAt_ext {h0 h : AH} (hx : HExt h0 h) {c : AV} {p : Nat × List AV} (hc : rowsAt h0 c = some p) : rowsAt h c = some p := by
  cases c <;> simp only [rowsAt] at hc ⊢ <;> try (exact hc)
  rename_i id ver n
  cases he : h0[id]? with
  | none => simp [he] at hc
  | some e => rw [hx id e he]; rw [he] at hc; exact hc
theorem aval_ext {h0 h : AH} (hx : HExt h0 h) {τ : Operand → AV} {ao : AOp} {c : AV} (hv : aval h0 τ ao = some c) : aval h τ ao = some c := by
  cases ao <;> try (exact hv)
  case load agg sz x =>
    simp only [aval, Option.bind_eq_some_iff] at hv ⊢
    obtain ⟨cs, h1, h2⟩ := hv
    exact ⟨cs, cellsAt_ext hx h1, h2⟩
  case b2s x =>
    simp only [aval] at hv ⊢
    split at hv <;> try (cases hv; done)
    rename_i n cs h1
    rw [rowsAt_ext hx h1]
    exact hv
  case ia st x i =>
    simp only [aval] at hv ⊢
    split at hv
    · rename_i n st' full cs k j h1 h2; exact hv
    · rename_i id v n k j h1 h2
      cases he : h0[id]? with
      | none => simp [he] at hv
      | some e => rw [hx id e he]; rw [he] at hv; exact hv
    · cases hv

/-- one operation of a drawn region, in the text's order: h0 is the heap ahead of the region, ents what it has made so far, rs the entries that its tail leaves as they are -/
def adstep (P : Program) (rs : List Nat) (h0 : AH) (o : AOper) (T : List AV) (ents : AH) (K : List AV → AH → Prop) : Prop :=
  match o.op with
  | .call f xs => ∃ c, (∀ h, HExt h0 h → aCall P (aEval T f) (xs.map (aEval T)) h (fun r h' => h' = h ∧ r = .ret c)) ∧ K (aPut T o.dst c) ents
  | .loadR agg sz x => match aEval T x with
    | .rp cs => match loadAV agg sz cs with
      | some c => K (aPut T o.dst c) ents
      | none => False
    | .ptr id v off => ∃ ty s cells c, h0[id]? = some (.mk v ty s cells) ∧ loadAV agg sz (cells.drop off) = some c ∧ id ∈ rs ∧ K (aPut T o.dst c) ents
    | _ => False
  | op => match aval h0 (aEval T) op with
    | some c => K (aPut T o.dst c) ents
    | none => ∃ c ent, (aallo (h0.length + ents.length) (aEval T) op = some (c, ent) ∨ aalloI (h0.length + ents.length) (aEval T) op = some (c, ent)) ∧ K (aPut T o.dst c) (ents ++ [ent])
def adrun (P : Program) (rs : List Nat) (h0 : AH) : List AOper → List AV → AH → (List AV → AH → Prop) → Prop
  | [], T, ents, K => K T ents
  | o :: rest, T, ents, K => agd o.guard T fun b => (b = true → adstep P rs h0 o T ents fun T ents => adrun P rs h0 rest T ents K) ∧ (b = false → adrun P rs h0 rest (aPut T o.dst (.v undef)) ents K)
/-- one operation of its tail -/
def astepK (P : Program) (rs : List Nat) (o : AOper) (T : List AV) (h : AH) (K : List AV → AH → Prop) : Prop :=
  match o.op with
  | .call f xs => ∃ c h', aCall P (aEval T f) (xs.map (aEval T)) h (fun r h2 => h2 = h' ∧ r = .ret c) ∧ (∀ id ∈ rs, h'[id]? = h[id]?) ∧ K (aPut T o.dst c) h'
  | .panic _ => False
  | .eqn _ _ => False
  | op => match aval h (aEval T) op with
    | some c => K (aPut T o.dst c) h
    | none => match aeff h (aEval T) op with
      | some (c, h') => (∀ id ∈ rs, h'[id]? = h[id]?) ∧ K (aPut T o.dst c) h'
      | none => False
/-- the tail; each operation with a mark: must it leave the entries rs as they are? -/
def arunK (P : Program) (rs : List Nat) : List Bool → List AOper → List AV → AH → (List AV → AH → Prop) → Prop
  | _, [], T, h, K => K T h
  | q, o :: rest, T, h, K => agd o.guard T fun b => (b = true → astepK P (bif q.headD true then rs else []) o T h fun T h => arunK P rs q.tail rest T h K) ∧ (b = false → arunK P rs q.tail rest (aPut T o.dst (.v undef)) h K)

def isF : AOp → Bool
  | .mv _ => true | .pick .. => true | .build .. => true | .nck _ => true | .bin .. => true | .eqb .. => true | .eqs .. => true | .un .. => true | .cvi .. => true | .cvs _ => true
  | .mkif .. => true | .mkfn .. => true | .slc .. => true | .sls .. => true | .fa .. => true | .fld .. => true | .ix .. => true | .ext .. => true | .len .. => true | .mm .. => true | .cap _ => true
  | _ => false
def isL : AOp → Bool
  | .loadR .. => true
  | _ => false
theorem aval_F {ao : AOp} (h : isF ao = true) (h1 h2 : AH) (τ : Operand → AV) : aval h1 τ ao = aval h2 τ ao := by
  cases ao <;> first | rfl | (simp [isF] at h; done)
theorem aallo_F {ao : AOp} (h : isF ao = true) (id : Nat) (τ : Operand → AV) : aallo id τ ao = none := by
  cases ao <;> first | rfl | (simp [isF] at h; done)
theorem aalloI_F {ao : AOp} (h : isF ao = true) (id : Nat) (τ : Operand → AV) : aalloI id τ ao = none := by
  cases ao <;> first | rfl | (simp [isF] at h; done)
theorem aeff_F {ao : AOp} (h : isF ao = true) (h1 : AH) (τ : Operand → AV) : aeff h1 τ ao = none := by
  cases ao <;> first | rfl | (simp [isF] at h; done)

def Yd.ents (y : Yd) (ents : AH) : AH := match y.act with
  | .alloc _ e => ents ++ [e]
  | _ => ents
/-- the yields of the body of a drawn region -/
def trB (P : Program) (ops : Array Oper) (rs : List Nat) (h0 : AH) : List Oper → List AOper → List Yd → List AV → AH → List AV → AH → Prop
  | [], [], [], T, ents, Tf, ef => T = Tf ∧ ents = ef
  | o :: l, ao :: al, y :: ys, T, ents, Tf, ef => YD P ops h0 o y T ∧ (isF ao.op = true → y.act = .fr) ∧ (y.act = .fr ∨ y.act = .rd ∨ (∃ ent, y.act = .alloc (h0.length + ents.length) ent) ∨ ∃ id e, y.act = .rdE id e ∧ id ∈ rs ∧ h0[id]? = some e) ∧ (isL ao.op = true → y.act = .fr ∨ ∃ id e, y.act = .rdE id e ∧ id ∈ rs) ∧ trB P ops rs h0 l al ys (aPut T o.dst y.c) (y.ents ents) Tf ef
  | _, _, _, _, _, _, _ => False
/-- the yields of its tail -/
def trT (P : Program) (ops : Array Oper) (rs : List Nat) (h0 : AH) : List Bool → List Oper → List AOper → List Yd → List AV → AH → List AV → AH → Prop
  | _, [], [], [], T, h, Tf, hf => T = Tf ∧ h = hf
  | q, o :: l, ao :: al, y :: ys, T, h, Tf, hf => YD P ops h0 o y T ∧ (isF ao.op = true → y.act = .fr) ∧ (y.act = .fr ∨ ∃ h', y.act = .step h h' ∧ ∀ id ∈ (bif q.headD true then rs else []), h'[id]? = h[id]?) ∧ trT P ops rs h0 q.tail l al ys (aPut T o.dst y.c) (y.eff h) Tf hf
  | _, _, _, _, _, _, _, _ => False

theorem adstep_yd {rs : List Nat} {h0 : AH} {o : Oper} {ao : AOp} {dst : Option Nat} {gd : Option (Nat × Bool)} (hd : dst = o.dst) (hos : OSound P o ao) (hls : LSound P o ao) (hld : ∀ agg sz x, ao = .loadR agg sz x → ASound P o (.load agg sz x)) {K : List AV → AH → Prop} {T : List AV} {ents : AH} (hw : aWant ops o T = some true) (hstep : adstep P rs h0 ⟨dst, gd, ao⟩ T ents K) :
    ∃ y : Yd, YD P ops h0 o y T ∧ (isF ao = true → y.act = .fr) ∧ (y.act = .fr ∨ y.act = .rd ∨ (∃ ent, y.act = .alloc (h0.length + ents.length) ent) ∨ ∃ id e, y.act = .rdE id e ∧ id ∈ rs ∧ h0[id]? = some e) ∧ (isL ao = true → y.act = .fr ∨ ∃ id e, y.act = .rdE id e ∧ id ∈ rs) ∧ K (aPut T o.dst y.c) (y.ents ents) := by
  subst hd
  rcases hos with ⟨ha, he, hnc, hnp, hnq⟩ | ⟨f, xs, ts, rfl, ho⟩ | ⟨x, rfl, ho⟩ | ⟨neg, x, t, yt, e, rfl, ho, hu⟩
  · by_cases hL : isL ao = true
    · cases ao <;> simp only [isL] at hL <;> try (cases hL; done)
      rename_i agg sz x
      have hl2 := hld agg sz x rfl
      simp only [adstep] at hstep
      split at hstep <;> try (exact hstep.elim)
      · rename_i cs hx
        split at hstep <;> try (exact hstep.elim)
        rename_i c hc
        refine ⟨⟨c, .fr⟩, .inl ⟨hw, ?_⟩, fun _ => rfl, .inl rfl, fun _ => .inl rfl, hstep⟩
        intro h w g ρ hs hr
        exact .inl (hl2 h (aEval T) c (by simp only [aval, hx, cellsAt, Option.bind_some]; exact hc) w g ρ hs hr)
      · rename_i id v off hx
        obtain ⟨ty, s, cells, c, h1, h2, h3, h4⟩ := hstep
        refine ⟨⟨c, .rdE id (.mk v ty s cells)⟩, .inl ⟨hw, ?_⟩, fun hF => (by simp [isF] at hF), .inr (.inr (.inr ⟨id, _, rfl, h3, h1⟩)), fun _ => .inr ⟨id, _, rfl, h3⟩, h4⟩
        intro h hid w g ρ hs hr
        exact .inl (hl2 h (aEval T) c (by simp only [aval, hx, cellsAt, hid, if_true, Option.bind_some]; exact h2) w g ρ hs hr)
    · have hstep' : match aval h0 (aEval T) ao with
          | some c => K (aPut T o.dst c) ents
          | none => ∃ c ent, (aallo (h0.length + ents.length) (aEval T) ao = some (c, ent) ∨ aalloI (h0.length + ents.length) (aEval T) ao = some (c, ent)) ∧ K (aPut T o.dst c) (ents ++ [ent]) := by
        cases ao <;> first | exact hstep | exact absurd rfl (hnc _ _) | exact absurd rfl (hnp _) | exact absurd rfl (hnq _ _) | exact absurd rfl hL
      cases hv : aval h0 (aEval T) ao with
      | some c =>
        rw [hv] at hstep'
        by_cases hF : isF ao = true
        · refine ⟨⟨c, .fr⟩, .inl ⟨hw, ?_⟩, fun _ => rfl, .inl rfl, fun h => absurd h hL, hstep'⟩
          intro h w g ρ hs hr
          exact .inl (ha h (aEval T) c (by rw [aval_F hF h h0]; exact hv) w g ρ hs hr)
        · refine ⟨⟨c, .rd⟩, .inl ⟨hw, ?_⟩, fun h => absurd h hF, .inr (.inl rfl), fun h => absurd h hL, hstep'⟩
          intro h hx w g ρ hs hr
          exact .inl (ha h (aEval T) c (aval_ext hx hv) w g ρ hs hr)
      | none =>
        rw [hv] at hstep'
        obtain ⟨c, ent, hv2, hk⟩ := hstep'
        refine ⟨⟨c, .alloc (h0.length + ents.length) ent⟩, .inl ⟨hw, Nat.le_add_right _ _, hv2.elim (hls _ _ _ _) (lsoundI hls _ _ _ _)⟩, fun hF => ?_, .inr (.inr (.inl ⟨ent, rfl⟩)), fun h => absurd h hL, hk⟩
        rw [aallo_F hF, aalloI_F hF] at hv2
        rcases hv2 with h | h <;> cases h
  · simp only [adstep] at hstep
    obtain ⟨c, hc, hK⟩ := hstep
    refine ⟨⟨c, .rd⟩, .inl ⟨hw, ?_⟩, fun hF => by simp [isF] at hF, .inr (.inl rfl), fun hF => by simp [isL] at hF, hK⟩
    intro h hx w g ρ hs hr
    refine .inr ?_
    obtain ⟨fn, caps, h1, h2, h3⟩ := aCall_run (hc h hx) hs (hr f (by simp [ho, Op.operands, Call.operands])) (fun x hx => hr x (by simp [ho, Op.operands, Call.operands, hx]))
    refine ⟨fn, _, run_call ho h1 h2 w, h3.mono ?_⟩
    rintro e w' ⟨x, h', g', k1, k2, k3, k4, k5, rfl, rfl⟩
    cases e <;> simp only [EndR] at k1
    exact ⟨_, g', rfl, k1, k2, k3, k4, k5⟩
  · simp only [adstep, aval, aallo, aalloI] at hstep
    obtain ⟨c, ent, h | h, _⟩ := hstep <;> cases h
  · simp only [adstep, aval, aallo, aalloI] at hstep
    obtain ⟨c, ent, h | h, _⟩ := hstep <;> cases h
theorem astepK_yd {rs : List Nat} {h0 h : AH} {o : Oper} {ao : AOp} {dst : Option Nat} {gd : Option (Nat × Bool)} (hd : dst = o.dst) (hos : OSound P o ao) {K : List AV → AH → Prop} {T : List AV} (hw : aWant ops o T = some true) (hstep : astepK P rs ⟨dst, gd, ao⟩ T h K) :
    ∃ y : Yd, YD P ops h0 o y T ∧ (isF ao = true → y.act = .fr) ∧ (y.act = .fr ∨ ∃ h', y.act = .step h h' ∧ ∀ id ∈ rs, h'[id]? = h[id]?) ∧ K (aPut T o.dst y.c) (y.eff h) := by
  subst hd
  rcases hos with ⟨ha, he, hnc, hnp, hnq⟩ | ⟨f, xs, ts, rfl, ho⟩ | ⟨x, rfl, ho⟩ | ⟨neg, x, t, yt, e, rfl, ho, hu⟩
  · have hstep' : match aval h (aEval T) ao with
        | some c => K (aPut T o.dst c) h
        | none => match aeff h (aEval T) ao with
          | some (c, h') => (∀ id ∈ rs, h'[id]? = h[id]?) ∧ K (aPut T o.dst c) h'
          | none => False := by
      cases ao <;> first | exact hstep | exact absurd rfl (hnc _ _) | exact absurd rfl (hnp _) | exact absurd rfl (hnq _ _)
    cases hv : aval h (aEval T) ao with
    | some c =>
      rw [hv] at hstep'
      by_cases hF : isF ao = true
      · refine ⟨⟨c, .fr⟩, .inl ⟨hw, ?_⟩, fun _ => rfl, .inl rfl, hstep'⟩
        intro h' w g ρ hs hr
        exact .inl (ha h' (aEval T) c (by rw [aval_F hF h' h]; exact hv) w g ρ hs hr)
      · refine ⟨⟨c, .step h h⟩, .inl ⟨hw, ?_⟩, fun h => absurd h hF, .inr ⟨h, rfl, fun _ _ => rfl⟩, hstep'⟩
        intro w g ρ hs hr
        obtain ⟨v, h1, h2⟩ := ha h (aEval T) c hv w g ρ hs hr
        exact .inl ⟨_, v, w, g, h1, .inl rfl, h2, hs, Gh.le.refl g, Fr.refl _ _, fun k hk => .inl hk⟩
    | none =>
      rw [hv] at hstep'
      cases hv2 : aeff h (aEval T) ao with
      | none => rw [hv2] at hstep'; exact hstep'.elim
      | some p =>
        obtain ⟨c, h'⟩ := p
        rw [hv2] at hstep'
        refine ⟨⟨c, .step h h'⟩, .inl ⟨hw, fun w g ρ hs hr => .inl (he h (aEval T) c h' hv2 w g ρ hs hr)⟩, fun hF => ?_, .inr ⟨h', rfl, hstep'.1⟩, hstep'.2⟩
        rw [aeff_F hF] at hv2
        cases hv2
  · simp only [astepK] at hstep
    obtain ⟨c, h', hc, hr', hK⟩ := hstep
    refine ⟨⟨c, .step h h'⟩, .inl ⟨hw, ?_⟩, fun hF => by simp [isF] at hF, .inr ⟨h', rfl, hr'⟩, hK⟩
    intro w g ρ hs hr
    refine .inr ?_
    obtain ⟨fn, caps, h1, h2, h3⟩ := aCall_run hc hs (hr f (by simp [ho, Op.operands, Call.operands])) (fun x hx => hr x (by simp [ho, Op.operands, Call.operands, hx]))
    refine ⟨fn, _, run_call ho h1 h2 w, h3.mono ?_⟩
    rintro e w' ⟨x, h', g', k1, k2, k3, k4, k5, rfl, rfl⟩
    cases e <;> simp only [EndR] at k1
    exact ⟨_, g', rfl, k1, k2, k3, k4, k5⟩
  · simp only [astepK] at hstep
  · simp only [astepK] at hstep

theorem aWant_of_agd {o : Oper} {gd : Option (Nat × Bool)} (hgd : compGuard ops o.guard = some gd) {T : List AV} {f : Bool → Prop} (hr : agd gd T f) : ∃ b, aWant ops o T = some b ∧ f b := by
  unfold compGuard at hgd
  split at hgd
  · rename_i hn
    cases hgd
    exact ⟨true, by simp [aWant, hn], hr⟩
  · rename_i j want hn
    split at hgd <;> try (cases hgd; done)
    rename_i t hd
    cases hgd
    simp only [agd] at hr
    split at hr <;> try (exact hr.elim)
    · rename_i b hT; exact ⟨b == want, by simp only [aWant, hn, hd, hT], hr⟩
    · rename_i vs hT; exact ⟨false, by simp only [aWant, hn, hd, hT], hr⟩
theorem compOpS_ld {S : List Nat} {o : Oper} {ao : AOp} (h : compOpS P S o = some ao) : ∀ agg sz x, ao = .loadR agg sz x → ASound P o (.load agg sz x) := by
  rintro agg sz x rfl
  have key : ∀ a, compOp P o = some a → toR a = .loadR agg sz x → ASound P o (.load agg sz x) := by
    intro a h1 h2
    have hs := compOp_sound h1
    cases a <;> simp only [toR] at h2 <;> cases h2
    · rcases hs with ⟨ha, _⟩ | ⟨_, _, _, e, _⟩ | ⟨_, e, _⟩ | ⟨_, _, _, _, _, e, _⟩
      · exact ha
      all_goals cases e
    · exact absurd h1 compOp_not_loadR
  unfold compOpS at h
  split at h <;> split at h
  all_goals first
    | exact absurd h compOp_not_loadR
    | (simp only [Option.map_eq_some_iff] at h
       obtain ⟨a, h1, h2⟩ := h
       exact key a h1 h2)
theorem adrun_tr {S rs : List Nat} {h0 : AH} {K : List AV → AH → Prop} : ∀ (l : List Oper) (al : List AOper), l.mapM (compOper P S ops) = some al → ∀ (T : List AV) (ents : AH), adrun P rs h0 al T ents K → ∃ ys Tf ef, trB P ops rs h0 l al ys T ents Tf ef ∧ K Tf ef
  | [], al, hm, T, ents, hr => by simp at hm; subst hm; exact ⟨[], T, ents, ⟨rfl, rfl⟩, hr⟩
  | o :: l, al, hm, T, ents, hr => by
    simp only [List.mapM_cons, Option.bind_eq_bind, Option.bind_eq_some_iff, Option.pure_def, Option.some.injEq] at hm
    obtain ⟨ao, h1, al', h2, rfl⟩ := hm
    unfold compOper at h1
    split at h1 <;> try (cases h1; done)
    rename_i aop gd hao hgd
    cases h1
    have ih := adrun_tr (rs := rs) (h0 := h0) (K := K) l al' h2
    simp only [adrun] at hr
    obtain ⟨b, hb, hf1, hf2⟩ := aWant_of_agd hgd hr
    cases b
    · obtain ⟨ys, Tf, ef, hy, hk⟩ := ih _ _ (hf2 rfl)
      exact ⟨⟨.v undef, .fr⟩ :: ys, Tf, ef, ⟨.inr ⟨hb, rfl⟩, fun _ => rfl, .inl rfl, fun _ => .inl rfl, hy⟩, hk⟩
    · obtain ⟨y, y1, y2, y3, y3', y4⟩ := adstep_yd rfl (compOpS_sound hao) (compOpS_lsound hao) (compOpS_ld hao) hb (hf1 rfl)
      obtain ⟨ys, Tf, ef, hy, hk⟩ := ih _ _ y4
      exact ⟨y :: ys, Tf, ef, ⟨y1, y2, y3, y3', hy⟩, hk⟩
def noCall (o : AOper) : Bool := match o.op with
  | .call .. => false
  | .panic _ => false
  | .eqn .. => false
  | _ => true
theorem arun_tr {S rs : List Nat} {h0 : AH} {K : List AV → AH → Prop} : ∀ (l : List Oper) (al : List AOper), l.mapM (compOper P S ops) = some al → ∀ (q : List Bool) (T : List AV) (h : AH), arunK P rs q al T h K → ∃ ys Tf hf, trT P ops rs h0 q l al ys T h Tf hf ∧ K Tf hf
  | [], al, hm, q, T, h, hr => by simp at hm; subst hm; exact ⟨[], T, h, ⟨rfl, rfl⟩, hr⟩
  | o :: l, al, hm, q, T, h, hr => by
    simp only [List.mapM_cons, Option.bind_eq_bind, Option.bind_eq_some_iff, Option.pure_def, Option.some.injEq] at hm
    obtain ⟨ao, h1, al', h2, rfl⟩ := hm
    unfold compOper at h1
    split at h1 <;> try (cases h1; done)
    rename_i aop gd hao hgd
    cases h1
    have ih := arun_tr (rs := rs) (h0 := h0) (K := K) l al' h2
    simp only [arunK] at hr
    obtain ⟨b, hb, hf1, hf2⟩ := aWant_of_agd hgd hr
    cases b
    · obtain ⟨ys, Tf, ef, hy, hk⟩ := ih _ _ _ (hf2 rfl)
      exact ⟨⟨.v undef, .fr⟩ :: ys, Tf, ef, ⟨.inr ⟨hb, rfl⟩, fun _ => rfl, .inl rfl, hy⟩, hk⟩
    · obtain ⟨y, y1, y2, y3, y4⟩ := astepK_yd rfl (compOpS_sound hao) hb (hf1 rfl)
      obtain ⟨ys, Tf, ef, hy, hk⟩ := ih _ _ _ y4
      exact ⟨y :: ys, Tf, ef, ⟨y1, y2, y3, hy⟩, hk⟩

/-- the text's order, by the yields -/
def lexD (P : Program) (ops : Array Oper) (h0 : AH) (tr : Nat → Yd) (K : List AV → AH → Prop) : Nat → Nat → List AV → AH → Prop
  | 0, _, T, h => K T h
  | m + 1, k, T, h => ∃ o, ops[k]? = some o ∧ YD P ops h0 o (tr k) T ∧ (tr k).okAt h0 h ∧ lexD P ops h0 tr K m (k + 1) (aPut T o.dst (tr k).c) ((tr k).eff h)
theorem lexD_then {h0 : AH} {tr : Nat → Yd} {K K' : List AV → AH → Prop} (m' : Nat) : ∀ (m k : Nat) (T : List AV) (h : AH), lexD P ops h0 tr K m k T h → (∀ T h, K T h → lexD P ops h0 tr K' m' (k + m) T h) → lexD P ops h0 tr K' (m + m') k T h
  | 0, k, T, h, hl, hk => by rw [Nat.zero_add]; exact hk T h hl
  | m + 1, k, T, h, hl, hk => by
    obtain ⟨o, h1, h2, h3, h4⟩ := hl
    rw [show m + 1 + m' = (m + m') + 1 by omega]
    exact ⟨o, h1, h2, h3, lexD_then m' m (k + 1) _ _ h4 fun T h hK => by rw [show k + 1 + m = k + (m + 1) by omega]; exact hk T h hK⟩
theorem wpAnyD_lex {md : Region.Mode} {h0 : AH} {tr : Nat → Yd} {K : List AV → AH → Prop}
    (hpair : ∀ i j, i < j → j < ops.size → (∃ n, i ∈ anc md ops j n) ∨ Compat (tr i) (tr j)) : ∀ (m k : Nat) (listed : Array Bool) (T : List AV) (h : AH), k + m = ops.size → listed.size = ops.size → Closed md ops listed → (∀ j, j < k → listed.getD j true = true) →
    Region.lexFrom md ops m k listed = true → lexD P ops h0 tr K m k T h → wpAnyD P md ops h0 tr K m listed T h
  | 0, k, listed, T, h, hk, hsz, hc, hl, hB, hq => ⟨by simpa [Region.lexFrom] using hB, hq⟩
  | m + 1, k, listed, T, h, hk, hsz, hc, hl, hB, hq => by
    obtain ⟨o, ho, hy, hok, hq'⟩ := hq
    simp only [Region.lexFrom, Bool.and_eq_true] at hB
    obtain ⟨⟨hr, hf⟩, hB'⟩ := hB
    have hr' : k ∈ Region.ready md ops listed := by simpa using hr
    refine wpAnyD_first ho m listed T h hc ?_ hr' hy hok ?_
    · intro j oj hj hne hun
      have hjo : j < ops.size := (Array.getElem?_eq_some_iff.1 hj).1
      have hkj : k < j := by
        rcases Nat.lt_trichotomy j k with h | h | h
        · rw [hl j h] at hun; cases hun
        · exact absurd h hne
        · exact h
      rcases hpair k j hkj hjo with h1 | h1
      · exact .inl h1
      · by_cases hd : ∃ e ∈ oj.after, Region.binds md e = true ∧ e.on = k
        · obtain ⟨e, he, hb, heq⟩ := hd
          refine .inl ⟨0, ?_⟩
          simp only [anc, hj, List.mem_filterMap]
          exact ⟨e, by simpa using he, by simp [hb, heq]⟩
        · exact .inr ⟨Region.free_spec ho hf j oj hj hne hun (fun e he hb heq => hd ⟨e, he, hb, heq⟩), h1⟩
    · refine wpAnyD_lex hpair m (k + 1) (listed.setIfInBounds k true) _ _ (by omega) (by simpa using hsz) (hc.set hr') ?_ hB' hq'
      intro j hj
      by_cases hjk : k = j
      · subst hjk
        have : k < listed.size := by rw [hsz]; exact (Array.getElem?_eq_some_iff.1 ho).1
        simp [this]
      · rw [getD_set_ne true hjk]; exact hl j (by omega)

theorem wpOp_of_qOpD {h0 : AH} {tr : Nat → Yd} {i : Nat} {T : List AV} {h : AH} {K : List AV → AH → Prop} {w0 : World} {S0 : Nat → Prop} {g0 : Gh} {K' : Act → World → Prop} {Q' : Exit → Act → World → Prop} {a : Act} {w : World} {g : Gh} (hs : St n0 w0 S0 g0 T h a w g)
    (hk : ∀ T h a w g, St n0 w0 S0 g0 T h a w g → K T h → K' a w) (hq : qOpD P ops h0 tr i K T h) : wpOp P ops Q' i K' a w := by
  unfold qOpD at hq
  unfold wpOp
  split
  · rename_i ho; simp only [ho] at hq; exact hk _ _ _ _ _ hs hq
  · rename_i o ho
    simp only [ho] at hq
    obtain ⟨hy, hok, hK⟩ := hq
    have quiet : ∀ c, AQuiet P o (aEval T) h c → K (aPut T o.dst c) h → Oper.upon P o a K' Q' ((execOp a.eval o).run P w) := by
      intro c hqu hK
      rcases hqu w g a.eval hs.sim (fun x _ => aEval_rep hs.tmps x) with ⟨v, h1, h2⟩ | ⟨f, vs, h1, h2⟩
      · rw [h1]; exact hk _ _ _ _ _ (hs.aput h2) hK
      · rw [h1]
        refine h2.mono ?_
        rintro e w' ⟨v, g', rfl, k1, k2, k3, k4, k5⟩
        exact hk _ _ _ _ _ ((hs.call k2 k3 k4 k5).aput k1) hK
    rcases hy with ⟨hw, hqu⟩ | ⟨hw, he⟩
    · rw [aWant_spec hw hs.tmps]
      simp only [if_true]
      left
      unfold Oper.wp
      generalize tr i = y at *
      obtain ⟨c, ya⟩ := y
      cases ya with
      | fr => exact quiet c (hqu h) hK
      | rd => exact quiet c (hqu h hok) hK
      | rdE id e => exact quiet c (hqu h hok) hK
      | alloc id ent =>
        obtain ⟨hid, hal⟩ := hqu
        obtain ⟨v, w', g', k1, k2, k3, k4, k5, k6⟩ := hal w g a.eval h hs.sim hok.2.2 (fun x _ => aEval_rep hs.tmps x)
        rw [k1]
        exact hk _ _ _ _ _ ((hs.call k3 k4 k5 k6).aput k2) hK
      | step h1 h2 =>
        have hh : h = h1 := hok
        subst hh
        rcases hqu w g a.eval hs.sim (fun x _ => aEval_rep hs.tmps x) with ⟨n, v, w', g', k1, k2, k3, k4, k5, k6, k7⟩ | ⟨f, vs, k1, k2⟩
        · rw [k1]
          have hst := (hs.call k4 k5 k6 k7).aput (d := o.dst) k3
          rcases k2 with rfl | ⟨rfl, rfl⟩
          · exact hk _ _ _ _ _ hst hK
          · exact hk _ _ _ _ _ hst hK
        · rw [k1]
          refine k2.mono ?_
          rintro e w' ⟨v, g', rfl, q1, q2, q3, q4, q5⟩
          exact hk _ _ _ _ _ ((hs.call q2 q3 q4 q5).aput q1) hK
    · rw [aWant_spec hw hs.tmps]
      simp only [Bool.false_eq_true, if_false]
      rw [he] at hK
      exact hk _ _ _ _ _ (hs.aput (rep_undef w g)) hK
theorem wpAny_of_D {md : Region.Mode} {h0 : AH} {tr : Nat → Yd} {K : List AV → AH → Prop} {Q' : Exit → Act → World → Prop} {w0 : World} {S0 : Nat → Prop} {g0 : Gh} (hK : ∀ T h a w g, St n0 w0 S0 g0 T h a w g → K T h → Q' .normal a w) :
    ∀ (fuel : Nat) (listed : Array Bool) (T : List AV) (h : AH) (a : Act) (w : World) (g : Gh), St n0 w0 S0 g0 T h a w g → wpAnyD P md ops h0 tr K fuel listed T h → wpAny P md ops Q' fuel listed a w
  | 0, _, _, _, _, _, _, hs, hq => ⟨hq.1, hK _ _ _ _ _ hs hq.2⟩
  | fuel + 1, _, _, _, _, _, _, hs, hq => ⟨fun h0 => hK _ _ _ _ _ hs (hq.1 h0), fun i hi => wpOp_of_qOpD hs (fun T' h' a' w' g' hs' hk => wpAny_of_D hK fuel _ T' h' a' w' g' hs' hk) (hq.2 i hi)⟩

end
section
variable {P : Program} {n0 : Nat} {ops : Array Oper}
theorem mapM_take {α β : Type} (f : α → Option β) : ∀ (l : List α) (bs : List β) (s : Nat), l.mapM f = some bs → (l.take s).mapM f = some (bs.take s) ∧ (l.drop s).mapM f = some (bs.drop s)
  | [], bs, s, h => by simp at h; subst h; simp
  | x :: l, bs, 0, h => by simpa using h
  | x :: l, bs, s + 1, h => by
    simp only [List.mapM_cons, Option.bind_eq_bind, Option.bind_eq_some_iff, Option.pure_def, Option.some.injEq] at h
    obtain ⟨b, h1, bs', h2, rfl⟩ := h
    obtain ⟨i1, i2⟩ := mapM_take f l bs' s h2
    refine ⟨?_, by simpa using i2⟩
    simp only [List.take_succ_cons, List.mapM_cons, Option.bind_eq_bind, h1, i1]
    rfl
theorem mapM_length {α β : Type} (f : α → Option β) : ∀ (l : List α) (bs : List β), l.mapM f = some bs → bs.length = l.length
  | [], bs, h => by simp at h; subst h; rfl
  | x :: l, bs, h => by
    simp only [List.mapM_cons, Option.bind_eq_bind, Option.bind_eq_some_iff, Option.pure_def, Option.some.injEq] at h
    obtain ⟨b, h1, bs', h2, rfl⟩ := h
    simp [mapM_length f l bs' h2]

theorem SimH.reserve {w : World} {g : Gh} {h : AH} (hs : SimH w g h) (n : Nat) : SimH w g (h ++ List.replicate n .free) := by
  have hget : ∀ {i v ty s : Nat} {c : List AV}, (h ++ List.replicate n Ent.free)[i]? = some (.mk v ty s c) → h[i]? = some (.mk v ty s c) := by
    intro i v ty s c he
    by_cases hi : i < h.length
    · rw [List.getElem?_append_left hi] at he; exact he
    · rw [List.getElem?_append_right (by omega), List.getElem?_replicate] at he
      split at he <;> cases he
  have how : ∀ i k, OwAt g (h ++ List.replicate n .free) i k → OwAt g h i k := by
    rintro i k ⟨v, ty, s, c, b, cap, e1, e2, e3, e4⟩
    exact ⟨v, ty, s, c, b, cap, hget e1, e2, e3, e4⟩
  refine ⟨fun i v ty s c he => hs.ent i v ty s c (hget he), fun i j k h1 h2 => hs.inj i j k (how i k h1) (how j k h2), hs.lt, ?_, ?_, hs.glob⟩
  · intro i v l hl
    have := hs.fresh i v l hl
    exact ⟨by simp; omega, fun v' ty s c he => this.2 _ _ _ _ (hget he)⟩
  · intro i v l hl he
    have := (hs.fresh i v l hl).1
    rw [List.getElem?_append_left this] at he
    exact hs.free i v l hl he
theorem Ow.of_reserve {g : Gh} {h : AH} {n k : Nat} (hk : Ow g (h ++ List.replicate n .free) k) : Ow g h k := by
  obtain ⟨i, v, ty, s, c, b, cap, e1, e2, e3, e4⟩ := hk
  refine ⟨i, v, ty, s, c, b, cap, ?_, e2, e3, e4⟩
  by_cases hi : i < h.length
  · rw [List.getElem?_append_left hi] at e1; exact e1
  · rw [List.getElem?_append_right (by omega), List.getElem?_replicate] at e1
    split at e1 <;> cases e1
theorem St.reserve {w0 : World} {S0 : Nat → Prop} {g0 : Gh} {T : List AV} {h : AH} {a : Act} {w : World} {g : Gh} (hs : St n0 w0 S0 g0 T h a w g) (n : Nat) : St n0 w0 S0 g0 T (h ++ List.replicate n .free) a w g :=
  ⟨hs.tmps, hs.defers, hs.sim.reserve n, hs.fr, hs.le, hs.bd, fun k hk => hs.ow k hk.of_reserve⟩


def YA.mk? : YA → Bool
  | .alloc _ _ => true
  | _ => false
def cnt : List Yd → Nat
  | [] => 0
  | y :: ys => (if y.act.mk? then 1 else 0) + cnt ys
def nilY : Yd := ⟨.any, .fr⟩
theorem cnt_take_le : ∀ (ys : List Yd) (i j : Nat), i ≤ j → cnt (ys.take i) ≤ cnt (ys.take j)
  | [], i, j, _ => by simp [cnt]
  | y :: ys, 0, j, _ => by simp [cnt]
  | y :: ys, i + 1, 0, h => by omega
  | y :: ys, i + 1, j + 1, h => by simp only [List.take_succ_cons, cnt]; have := cnt_take_le ys i j (by omega); omega
theorem cnt_take_succ : ∀ (ys : List Yd) (i id : Nat) (e : Ent), (ys.getD i nilY).act = .alloc id e → cnt (ys.take (i + 1)) = cnt (ys.take i) + 1
  | [], i, id, e, h => by simp [nilY] at h
  | y :: ys, 0, id, e, h => by simp at h; simp [cnt, h, YA.mk?]
  | y :: ys, i + 1, id, e, h => by
    have := cnt_take_succ ys i id e (by simpa using h)
    simp only [List.take_succ_cons, cnt] at this ⊢
    omega
theorem trB_len {rs : List Nat} {h0 : AH} : ∀ (l : List Oper) (al : List AOper) (ys : List Yd) (T : List AV) (ents : AH) (Tf : List AV) (ef : AH), trB P ops rs h0 l al ys T ents Tf ef → ys.length = l.length ∧ al.length = l.length
  | [], [], [], _, _, _, _, _ => ⟨rfl, rfl⟩
  | o :: l, ao :: al, y :: ys, T, ents, Tf, ef, h => by
    have := trB_len l al ys _ _ Tf ef h.2.2.2.2
    simp [this]
  | [], [], _ :: _, _, _, _, _, h => h.elim
  | [], _ :: _, [], _, _, _, _, h => h.elim
  | [], _ :: _, _ :: _, _, _, _, _, h => h.elim
  | _ :: _, [], [], _, _, _, _, h => h.elim
  | _ :: _, [], _ :: _, _, _, _, _, h => h.elim
  | _ :: _, _ :: _, [], _, _, _, _, h => h.elim
theorem trT_len {rs : List Nat} {h0 : AH} : ∀ (q : List Bool) (l : List Oper) (al : List AOper) (ys : List Yd) (T : List AV) (h : AH) (Tf : List AV) (hf : AH), trT P ops rs h0 q l al ys T h Tf hf → ys.length = l.length ∧ al.length = l.length
  | _, [], [], [], _, _, _, _, _ => ⟨rfl, rfl⟩
  | q, o :: l, ao :: al, y :: ys, T, h', Tf, hf, h => by
    have := trT_len q.tail l al ys _ _ Tf hf h.2.2.2
    simp [this]
  | _, [], [], _ :: _, _, _, _, _, h => h.elim
  | _, [], _ :: _, [], _, _, _, _, h => h.elim
  | _, [], _ :: _, _ :: _, _, _, _, _, h => h.elim
  | _, _ :: _, [], [], _, _, _, _, h => h.elim
  | _, _ :: _, [], _ :: _, _, _, _, _, h => h.elim
  | _, _ :: _, _ :: _, [], _, _, _, _, h => h.elim
/-- what each yield of the body is -/
theorem trB_act {rs : List Nat} {h0 : AH} : ∀ (l : List Oper) (al : List AOper) (ys : List Yd) (T : List AV) (ents : AH) (Tf : List AV) (ef : AH), trB P ops rs h0 l al ys T ents Tf ef → ∀ j, j < l.length →
    ((∀ ao, al[j]? = some ao → isF ao.op = true → (ys.getD j nilY).act = .fr) ∧ ((ys.getD j nilY).act = .fr ∨ (ys.getD j nilY).act = .rd ∨ (∃ ent, (ys.getD j nilY).act = .alloc (h0.length + ents.length + cnt (ys.take j)) ent) ∨ ∃ id e, (ys.getD j nilY).act = .rdE id e ∧ id ∈ rs ∧ h0[id]? = some e) ∧
      (∀ ao, al[j]? = some ao → isL ao.op = true → (ys.getD j nilY).act = .fr ∨ ∃ id e, (ys.getD j nilY).act = .rdE id e ∧ id ∈ rs))
  | [], [], [], T, ents, Tf, ef, h, j, hj => by simp at hj
  | o :: l, ao :: al, y :: ys, T, ents, Tf, ef, h, 0, hj => by
    obtain ⟨h1, h2, h3, h3', h4⟩ := h
    refine ⟨fun ao' e hF => ?_, ?_, fun ao' e hF => ?_⟩
    · simp at e; subst e; simpa using h2 hF
    · rcases h3 with h3 | h3 | ⟨ent, h3⟩ | ⟨id, e, h3, h5⟩
      · exact .inl (by simpa using h3)
      · exact .inr (.inl (by simpa using h3))
      · exact .inr (.inr (.inl ⟨ent, by simpa [cnt] using h3⟩))
      · exact .inr (.inr (.inr ⟨id, e, by simpa using h3, h5⟩))
    · simp at e; subst e; simpa using h3' hF
  | o :: l, ao :: al, y :: ys, T, ents, Tf, ef, h, j + 1, hj => by
    obtain ⟨h1, h2, h3, h3', h4⟩ := h
    have ih := trB_act l al ys _ _ Tf ef h4 j (by simpa using hj)
    refine ⟨fun ao' e hF => by simpa using ih.1 ao' (by simpa using e) hF, ?_, fun ao' e hF => by simpa using ih.2.2 ao' (by simpa using e) hF⟩
    rcases ih.2.1 with i3 | i3 | ⟨ent, i3⟩ | ⟨id, e, i3, i5⟩
    · exact .inl (by simpa using i3)
    · exact .inr (.inl (by simpa using i3))
    · refine .inr (.inr (.inl ⟨ent, ?_⟩))
      simp only [List.getD_cons_succ, List.take_succ_cons, cnt]
      rw [i3]
      congr 1
      rcases h3 with h3 | h3 | ⟨e', h3⟩ | ⟨id, e, h3, _⟩
      · simp [Yd.ents, h3, YA.mk?]
      · simp [Yd.ents, h3, YA.mk?]
      · simp [Yd.ents, h3, YA.mk?]; omega
      · simp [Yd.ents, h3, YA.mk?]
    · exact .inr (.inr (.inr ⟨id, e, by simpa using i3, i5⟩))
  | [], [], _ :: _, _, _, _, _, h, _, _ => h.elim
  | [], _ :: _, [], _, _, _, _, h, _, _ => h.elim
  | [], _ :: _, _ :: _, _, _, _, _, h, _, _ => h.elim
  | _ :: _, [], [], _, _, _, _, h, _, _ => h.elim
  | _ :: _, [], _ :: _, _, _, _, _, h, _, _ => h.elim
  | _ :: _, _ :: _, [], _, _, _, _, h, _, _ => h.elim
theorem trT_act {rs : List Nat} {h0 : AH} : ∀ (q : List Bool) (l : List Oper) (al : List AOper) (ys : List Yd) (T : List AV) (h : AH) (Tf : List AV) (hf : AH), trT P ops rs h0 q l al ys T h Tf hf → ∀ j ao, al[j]? = some ao → isF ao.op = true → (ys.getD j nilY).act = .fr
  | _, [], [], [], T, ents, Tf, ef, h, j, ao, hj, _ => by simp at hj
  | q, o :: l, ao :: al, y :: ys, T, ents, Tf, ef, h, 0, ao', hj, hF => by
    simp at hj; subst hj; simpa using h.2.1 hF
  | q, o :: l, ao :: al, y :: ys, T, ents, Tf, ef, h, j + 1, ao', hj, hF => by
    have ih := trT_act q.tail l al ys _ _ Tf ef h.2.2.2 j ao' (by simpa using hj) hF
    simpa using ih
  | _, [], [], _ :: _, _, _, _, _, h, _, _, _, _ => h.elim
  | _, [], _ :: _, [], _, _, _, _, h, _, _, _, _ => h.elim
  | _, [], _ :: _, _ :: _, _, _, _, _, h, _, _, _, _ => h.elim
  | _, _ :: _, [], [], _, _, _, _, h, _, _, _, _ => h.elim
  | _, _ :: _, [], _ :: _, _, _, _, _, h, _, _, _, _ => h.elim
  | _, _ :: _, _ :: _, [], _, _, _, _, h, _, _, _, _ => h.elim

theorem trT_step {rs : List Nat} {h0 : AH} : ∀ (q : List Bool) (l : List Oper) (al : List AOper) (ys : List Yd) (T : List AV) (h : AH) (Tf : List AV) (hf : AH), trT P ops rs h0 q l al ys T h Tf hf → ∀ j, (ys.getD j nilY).act = .fr ∨ ∃ h1 h2, (ys.getD j nilY).act = .step h1 h2 ∧ (q.getD j true = true → ∀ id ∈ rs, h2[id]? = h1[id]?)
  | _, [], [], [], T, ents, Tf, ef, h, j => .inl (by simp [nilY])
  | q, o :: l, ao :: al, y :: ys, T, h', Tf, ef, h, 0 => by
    rcases h.2.2.1 with h3 | ⟨h2, h3, h4⟩
    · exact .inl (by simpa using h3)
    · refine .inr ⟨h', h2, by simpa using h3, fun hq => ?_⟩
      have : q.headD true = true := by
        cases q with
        | nil => rfl
        | cons b q => simpa using hq
      rw [this] at h4; exact h4
  | q, o :: l, ao :: al, y :: ys, T, ents, Tf, ef, h, j + 1 => by
    have ih := trT_step q.tail l al ys _ _ Tf ef h.2.2.2 j
    rcases ih with ih | ⟨h1, h2, ih, ih2⟩
    · exact .inl (by simpa using ih)
    · refine .inr ⟨h1, h2, by simpa using ih, fun hq => ih2 ?_⟩
      cases q with
      | nil => rfl
      | cons b q => simpa using hq
  | _, [], [], _ :: _, _, _, _, _, h, _ => h.elim
  | _, [], _ :: _, [], _, _, _, _, h, _ => h.elim
  | _, [], _ :: _, _ :: _, _, _, _, _, h, _ => h.elim
  | _, _ :: _, [], [], _, _, _, _, h, _ => h.elim
  | _, _ :: _, [], _ :: _, _, _, _, _, h, _ => h.elim
  | _, _ :: _, _ :: _, [], _, _, _, _, h, _ => h.elim

theorem trB_lexD {rs : List Nat} {h0 : AH} {tr : Nat → Yd} {N : Nat} : ∀ (l : List Oper) (al : List AOper) (ys : List Yd) (k : Nat) (T : List AV) (ents : AH) (Tf : List AV) (ef : AH), (∀ j, j < l.length → l[j]? = ops[k + j]?) → (∀ j, j < l.length → tr (k + j) = ys.getD j nilY) → N = ents.length + cnt ys →
    trB P ops rs h0 l al ys T ents Tf ef → lexD P ops h0 tr (fun T h => T = Tf ∧ h = h0 ++ ef) l.length k T (h0 ++ ents ++ List.replicate (N - ents.length) .free)
  | [], [], [], k, T, ents, Tf, ef, _, _, hN, h => by
    simp only [List.length_nil, lexD]
    simp only [cnt, Nat.add_zero] at hN
    obtain ⟨rfl, rfl⟩ := h
    exact ⟨rfl, by simp [hN]⟩
  | o :: l, ao :: al, y :: ys, k, T, ents, Tf, ef, hl, ht, hN, h => by
    obtain ⟨h1, h2, h3, h3', h4⟩ := h
    have ho : ops[k]? = some o := by have := hl 0 (by simp); simpa using this.symm
    have hy : tr k = y := by have := ht 0 (by simp); simpa using this
    have hx : HExt h0 (h0 ++ ents ++ List.replicate (N - ents.length) .free) := by rw [List.append_assoc]; exact HExt.append _ _
    simp only [List.length_cons, lexD]
    simp only [cnt] at hN
    refine ⟨o, ho, by rw [hy]; exact h1, ?_, ?_⟩
    · rw [hy]
      rcases h3 with h3 | h3 | ⟨ent, h3⟩ | ⟨id, e, h3, _, h5⟩
      rotate_left 3
      · simp only [Yd.okAt, h3]; exact hx id e h5
      · simp [Yd.okAt, h3]
      · simp only [Yd.okAt, h3]; exact hx
      · simp only [Yd.okAt, h3]
        simp only [h3, YA.mk?, if_true] at hN
        refine ⟨by omega, hx, ?_⟩
        rw [List.getElem?_append_right (by simp)]
        simp only [List.length_append, Nat.sub_self, List.getElem?_replicate]
        rw [if_pos (by omega)]
    · rw [hy]
      have ih := trB_lexD (tr := tr) (N := N) l al ys (k + 1) (aPut T o.dst y.c) _ Tf ef (fun j hj => by have := hl (j + 1) (by simp; omega); simpa [Nat.add_assoc, Nat.add_comm 1 j] using this) (fun j hj => by have := ht (j + 1) (by simp; omega); simpa [Nat.add_assoc, Nat.add_comm 1 j] using this) (by
        rcases h3 with h3 | h3 | ⟨ent, h3⟩ | ⟨id, e, h3, _⟩
        rotate_left 3
        · simp [h3, YA.mk?] at hN; simp [Yd.ents, h3]; exact hN
        · simp [h3, YA.mk?] at hN; simp [Yd.ents, h3]; exact hN
        · simp [h3, YA.mk?] at hN; simp [Yd.ents, h3]; exact hN
        · simp [h3, YA.mk?] at hN; simp [Yd.ents, h3]; omega) h4
      rcases h3 with h3 | h3 | ⟨ent, h3⟩ | ⟨id, e, h3, _⟩
      rotate_left 3
      · simp only [Yd.ents, h3] at ih
        simpa [Yd.eff, h3] using ih
      · simp only [Yd.ents, h3] at ih
        simpa [Yd.eff, h3] using ih
      · simp only [Yd.ents, h3] at ih
        simpa [Yd.eff, h3] using ih
      · simp only [Yd.ents, h3] at ih
        simp only [Yd.eff, h3]
        simp only [h3, YA.mk?, if_true] at hN
        have e : (h0 ++ ents ++ List.replicate (N - ents.length) Ent.free).set (h0.length + ents.length) ent = h0 ++ (ents ++ [ent]) ++ List.replicate (N - (ents ++ [ent]).length) .free := by
          rw [List.set_append_right _ _ (by simp)]
          simp only [List.length_append, Nat.sub_self, List.length_singleton]
          rw [show N - ents.length = (N - (ents.length + 1)) + 1 by omega, List.replicate_succ]
          simp
        rw [e]
        exact ih
  | [], [], _ :: _, _, _, _, _, _, _, _, _, h => h.elim
  | [], _ :: _, [], _, _, _, _, _, _, _, _, h => h.elim
  | [], _ :: _, _ :: _, _, _, _, _, _, _, _, _, h => h.elim
  | _ :: _, [], [], _, _, _, _, _, _, _, _, h => h.elim
  | _ :: _, [], _ :: _, _, _, _, _, _, _, _, _, h => h.elim
  | _ :: _, _ :: _, [], _, _, _, _, _, _, _, _, h => h.elim
theorem trT_lexD {rs : List Nat} {h0 : AH} {tr : Nat → Yd} : ∀ (q : List Bool) (l : List Oper) (al : List AOper) (ys : List Yd) (k : Nat) (T : List AV) (h : AH) (Tf : List AV) (hf : AH), (∀ j, j < l.length → l[j]? = ops[k + j]?) → (∀ j, j < l.length → tr (k + j) = ys.getD j nilY) →
    trT P ops rs h0 q l al ys T h Tf hf → lexD P ops h0 tr (fun T h => T = Tf ∧ h = hf) l.length k T h
  | _, [], [], [], k, T, h, Tf, hf, _, _, hq => hq
  | q, o :: l, ao :: al, y :: ys, k, T, h, Tf, hf, hl, ht, hq => by
    obtain ⟨h1, h2, h3, h4⟩ := hq
    have ho : ops[k]? = some o := by have := hl 0 (by simp); simpa using this.symm
    have hy : tr k = y := by have := ht 0 (by simp); simpa using this
    simp only [List.length_cons, lexD]
    refine ⟨o, ho, by rw [hy]; exact h1, ?_, ?_⟩
    · rw [hy]
      rcases h3 with h3 | ⟨h', h3, _⟩
      · simp [Yd.okAt, h3]
      · simp [Yd.okAt, h3]
    · rw [hy]
      exact trT_lexD (tr := tr) q.tail l al ys (k + 1) (aPut T o.dst y.c) _ Tf hf (fun j hj => by have := hl (j + 1) (by simp; omega); simpa [Nat.add_assoc, Nat.add_comm 1 j] using this) (fun j hj => by have := ht (j + 1) (by simp; omega); simpa [Nat.add_assoc, Nat.add_comm 1 j] using this) h4
  | _, [], [], _ :: _, _, _, _, _, _, _, _, h => h.elim
  | _, [], _ :: _, [], _, _, _, _, _, _, _, h => h.elim
  | _, [], _ :: _, _ :: _, _, _, _, _, _, _, _, h => h.elim
  | _, _ :: _, [], [], _, _, _, _, _, _, _, h => h.elim
  | _, _ :: _, [], _ :: _, _, _, _, _, _, _, _, h => h.elim
  | _, _ :: _, _ :: _, [], _, _, _, _, _, _, _, h => h.elim

/-- must this operation of the tail leave what loads that are looked at read? -/
def chkAt (ops : Array Oper) (al : List AOper) (s j : Nat) : Bool :=
  (List.range s).any fun i => ((al[i]?).map fun o => isL o.op).getD false && !(anc .any ops j 12).contains i
theorem chkAt_spec {al : List AOper} {s i j : Nat} {ao : AOper} (h : chkAt ops al s j = false) (hi : i < s) (e : al[i]? = some ao) (hL : isL ao.op = true) : ∃ n, i ∈ anc .any ops j n := by
  have := List.any_eq_false.1 h i (List.mem_range.2 hi)
  simp [e, hL] at this
  exact ⟨12, this⟩
/-- each operation of the tail but the free ones stands behind all but the free ones -/
def tailsOk (ops : Array Oper) (al : List AOper) (s : Nat) : Bool :=
  (List.range ops.size).all fun j => decide (j < s) || ((al[j]?).map fun o => isF o.op).getD false || (let A := anc .any ops j 12
    (List.range j).all fun i => ((al[i]?).map fun o => isF o.op || isL o.op && decide (i < s)).getD false || A.contains i)
theorem tailsOk_spec {al : List AOper} {s : Nat} (h : tailsOk ops al s = true) {i j : Nat} (hij : i < j) (hs : s ≤ j) (hj : j < ops.size) :
    (∃ ao, al[j]? = some ao ∧ isF ao.op = true) ∨ (∃ ao, al[i]? = some ao ∧ isF ao.op = true) ∨ (∃ ao, al[i]? = some ao ∧ isL ao.op = true ∧ i < s) ∨ ∃ n, i ∈ anc .any ops j n := by
  have := List.all_eq_true.1 h j (List.mem_range.2 hj)
  simp only [Bool.or_eq_true, decide_eq_true_eq] at this
  rcases this with (h1 | h1) | h1
  · omega
  · left
    cases hq : al[j]? with
    | none => simp [hq] at h1
    | some ao => exact ⟨ao, rfl, by simpa [hq] using h1⟩
  · have h2 := List.all_eq_true.1 h1 i (List.mem_range.2 hij)
    simp only [Bool.or_eq_true] at h2
    rcases h2 with h2 | h2
    · right
      cases hq : al[i]? with
      | none => simp [hq] at h2
      | some ao =>
        have h2' : isF ao.op = true ∨ (isL ao.op = true ∧ i < s) := by simpa [hq] using h2
        rcases h2' with h2 | h2
        · exact .inl ⟨ao, rfl, h2⟩
        · exact .inr (.inl ⟨ao, rfl, h2⟩)
    · exact .inr (.inr (.inr ⟨12, by simpa using h2⟩))
theorem compat_fr_left {y z : Yd} (h : y.act = .fr) : Compat y z := by unfold Compat; rw [h]; trivial
theorem compat_fr_right {y z : Yd} (h : z.act = .fr) : Compat y z := by unfold Compat; rw [h]; cases y.act <;> trivial

theorem AW_region_drawn {S rs : List Nat} {id s : Nat} {al : List AOper} {Q : AX → List AV → AH → Prop} {T : List AV} {h : AH} (hfm : P.follows .mixedOrders = true) (hB : Region.lexB .any ops = true) (hm : ops.toList.mapM (compOper P S ops) = some al) (hs : s ≤ ops.size) (ht : tailsOk ops al s = true)
    (hr : adrun P rs h (al.take s) T [] fun T ents => arunK P rs ((List.range' s (ops.size - s)).map (chkAt ops al s)) (al.drop s) T (h ++ ents) fun T h => Q .normal T h) : AW P n0 (.region id ops true) Q T h := by
  intro w0 S0 g0 a w g hst
  simp only [Region.lexB, Bool.and_eq_true] at hB
  obtain ⟨hm1, hm2⟩ := mapM_take _ _ _ s hm
  obtain ⟨yB, T1, e1, hyB, hr2⟩ := adrun_tr _ _ hm1 T [] hr
  obtain ⟨yT, T2, h2, hyT, hQ⟩ := arun_tr (h0 := h) _ _ hm2 _ T1 (h ++ e1) hr2
  have hlen : (ops.toList.take s).length = s := by simp; omega
  have hlenT : (ops.toList.drop s).length = ops.size - s := by simp
  have lB := trB_len _ _ _ _ _ _ _ hyB
  have lT := trT_len _ _ _ _ _ _ _ _ hyT
  rw [hlen] at lB
  rw [hlenT] at lT
  have hal : al.length = ops.size := by have := mapM_length _ _ _ hm; simpa using this
  let tr : Nat → Yd := fun k => (yB ++ yT).getD k nilY
  have trB_eq : ∀ j, j < s → tr j = yB.getD j nilY := by
    intro j hj
    show (yB ++ yT).getD j nilY = _
    rw [List.getD_eq_getElem?_getD, List.getD_eq_getElem?_getD, List.getElem?_append_left (by omega)]
  have trT_eq : ∀ j, tr (s + j) = yT.getD j nilY := by
    intro j
    show (yB ++ yT).getD (s + j) nilY = _
    rw [List.getD_eq_getElem?_getD, List.getD_eq_getElem?_getD, List.getElem?_append_right (by omega)]
    rw [show s + j - yB.length = j by omega]
  have frB : ∀ j ao, j < s → al[j]? = some ao → isF ao.op = true → (tr j).act = .fr := by
    intro j ao hj e hF
    rw [trB_eq j hj]
    exact (trB_act _ _ _ _ _ _ _ hyB j (by omega)).1 ao (by rw [List.getElem?_take, if_pos hj]; exact e) hF
  have frT : ∀ j ao, s ≤ j → al[j]? = some ao → isF ao.op = true → (tr j).act = .fr := by
    intro j ao hj e hF
    have := trT_act _ _ _ _ _ _ _ _ hyT (j - s) ao (by rw [List.getElem?_drop, show s + (j - s) = j by omega]; exact e) hF
    rw [show j = s + (j - s) by omega, trT_eq]
    exact this
  have fr : ∀ j ao, al[j]? = some ao → isF ao.op = true → (tr j).act = .fr := by
    intro j ao e hF
    rcases Nat.lt_or_ge j s with h | h
    · exact frB j ao h e hF
    · exact frT j ao h e hF
  have hpair : ∀ i j, i < j → j < ops.size → (∃ n, i ∈ anc .any ops j n) ∨ Compat (tr i) (tr j) := by
    intro i j hij hj
    rcases Nat.lt_or_ge j s with hjs | hjs
    · right
      have ai := (trB_act _ _ _ _ _ _ _ hyB i (by omega)).2.1
      have aj := (trB_act _ _ _ _ _ _ _ hyB j (by omega)).2.1
      rw [← trB_eq i (by omega)] at ai
      rw [← trB_eq j hjs] at aj
      have hlt : ∀ {id : Nat} {e : Ent}, h[id]? = some e → id < h.length := fun he => (List.getElem?_eq_some_iff.1 he).1
      rcases ai with ai | ai | ⟨ei, ai⟩ | ⟨idi, ei, ai, _, hi0⟩
      · exact compat_fr_left ai
      · rcases aj with aj | aj | ⟨ej, aj⟩ | ⟨idj, ej, aj, _, hj0⟩
        · exact compat_fr_right aj
        · unfold Compat; rw [ai, aj]; trivial
        · unfold Compat; rw [ai, aj]; trivial
        · unfold Compat; rw [ai, aj]; trivial
      · rcases aj with aj | aj | ⟨ej, aj⟩ | ⟨idj, ej, aj, _, hj0⟩
        · exact compat_fr_right aj
        · unfold Compat; rw [ai, aj]; trivial
        · unfold Compat; rw [ai, aj]
          have c1 := cnt_take_succ yB i _ ei (by rw [← trB_eq i (by omega)]; exact ai)
          have c2 := cnt_take_le yB (i + 1) j hij
          dsimp only
          omega
        · unfold Compat; rw [ai, aj]
          have := hlt hj0
          dsimp only
          omega
      · rcases aj with aj | aj | ⟨ej, aj⟩ | ⟨idj, ej, aj, _, hj0⟩
        · exact compat_fr_right aj
        · unfold Compat; rw [ai, aj]; trivial
        · unfold Compat; rw [ai, aj]
          have := hlt hi0
          dsimp only
          omega
        · unfold Compat; rw [ai, aj]; trivial
    · rcases tailsOk_spec ht hij hjs hj with ⟨ao, e, hF⟩ | ⟨ao, e, hF⟩ | ⟨ao, e, hF, his⟩ | h1
      · exact .inr (compat_fr_right (fr j ao e hF))
      · exact .inr (compat_fr_left (fr i ao e hF))
      · cases hq' : chkAt ops al s j with
        | false => exact .inl (chkAt_spec hq' his e hF)
        | true =>
        have hq : ((List.range' s (ops.size - s)).map (chkAt ops al s)).getD (j - s) true = true := by
          rw [List.getD_eq_getElem?_getD, List.getElem?_map, List.getElem?_range' (by omega)]
          simp only [Option.map_some, Option.getD_some, Nat.one_mul]
          rw [show s + (j - s) = j by omega, hq']
        right
        have ai := (trB_act _ _ _ _ _ _ _ hyB i (by omega)).2.2 ao (by rw [List.getElem?_take, if_pos his]; exact e) hF
        rw [← trB_eq i his] at ai
        rcases ai with ai | ⟨idi, ei, ai, hmem⟩
        · exact compat_fr_left ai
        · have aj := trT_step _ _ _ _ _ _ _ _ hyT (j - s)
          rw [← trT_eq, show s + (j - s) = j by omega] at aj
          rcases aj with aj | ⟨h1, h2, aj, hrs⟩
          · exact compat_fr_right aj
          · unfold Compat; rw [ai, aj]; exact hrs hq idi hmem
      · exact .inl h1
  have hlexB := trB_lexD (P := P) (ops := ops) (h0 := h) (tr := tr) (N := cnt yB) (ops.toList.take s) _ yB 0 T [] T1 e1 (fun j hj => by
      rw [hlen] at hj
      rw [List.getElem?_take, if_pos hj]; simp) (fun j hj => by rw [hlen] at hj; rw [Nat.zero_add]; exact trB_eq j hj) (by simp) hyB
  have hlexT := trT_lexD (P := P) (ops := ops) (h0 := h) (tr := tr) _ (ops.toList.drop s) _ yT s T1 (h ++ e1) T2 h2 (fun j hj => by rw [List.getElem?_drop]; simp) (fun j hj => trT_eq j) hyT
  rw [hlen] at hlexB
  rw [hlenT] at hlexT
  have hlex := lexD_then (ops.size - s) s 0 T _ hlexB (fun T' h' hk => by
    obtain ⟨rfl, rfl⟩ := hk
    rw [Nat.zero_add]
    exact hlexT)
  rw [show s + (ops.size - s) = ops.size by omega] at hlex
  have hclosed : Closed .any ops (Array.replicate ops.size false) := by
    intro k o ho hk
    have : k < ops.size := (Array.getElem?_eq_some_iff.1 ho).1
    simp [this] at hk
  have hD := wpAnyD_lex (P := P) (md := .any) (h0 := h) (tr := tr) hpair ops.size 0 (Array.replicate ops.size false) T _ (by omega) (by simp) hclosed (by omega) hB.2 hlex
  refine wp_region_any hfm ?_
  have hst' := hst.drew.reserve (cnt yB)
  refine wpAny_of_D (P := P) (md := .any) (ops := ops) (h0 := h) (tr := tr) (Q' := APost n0 w0 S0 g0 Q) (w0 := w0) (S0 := S0) (g0 := g0) (K := fun T h => T = T2 ∧ h = h2) ?_ ops.size (Array.replicate ops.size false) T _ a _ g hst' (by simpa using hD)
  rintro T' h' a' w' g' hs' ⟨rfl, rfl⟩
  exact ⟨.normal, T', h', g', hs', trivial, hQ⟩

end
section
variable {P : Program} {n0 : Nat}

/-- code, what it needs of types written out -/
inductive AC where
  | skip
  | reg (ops : List AOper)
  | drw (body : List AOper) (q : List Bool) (tail : List AOper)
  | seq (a b : AC)
  | cond (c : Operand) (a b : AC)
  | block (id : Nat) (a : AC)
  | loop (a : AC)
  | exit (id : Nat)
  | ret

def isTail (o : AOper) : Bool := match o.op with
  | .app .. => true
  | .store .. => true
  | _ => false
def tailAt : List AOper → Nat
  | [] => 0
  | o :: l => if isTail o then 0 else tailAt l + 1
/-- loads that some operation of the tail does not stand behind -/
def offLoads (ops : Array Oper) (al : List AOper) (s : Nat) : List Nat :=
  (List.range s).filterMap fun i => match al[i]? with
    | some o => match o.op with
      | .load .. => if ((List.range ops.size).all fun j => decide (j < s) || ((al[j]?).map fun o => isF o.op).getD false || (anc .any ops j 12).contains i) then none else o.dst
      | _ => none
    | none => none
/-- a call that is handed a pointer -/
def ptrCall (P : Program) (o : AOper) : Bool := match o.op with
  | .call (.func f) _ => match P.funcs[f]? with
    | some fn => fn.params.any fun t => match P.underlying t with
      | some (.pointer _) => true
      | _ => false
    | none => false
  | _ => false
def tailAt2 (P : Program) : List AOper → Nat
  | [] => 0
  | o :: l => if isTail o || ptrCall P o then 0 else tailAt2 P l + 1
def drawn (P : Program) (ops : Array Oper) (S : List Nat) (s : Nat) : Option AC :=
  match ops.toList.mapM (compOper P S ops) with
  | some al => if P.follows .mixedOrders = true ∧ Region.lexB .any ops = true ∧ s ≤ ops.size ∧ tailsOk ops al s = true then some (.drw (al.take s) ((List.range' s (ops.size - s)).map (chkAt ops al s)) (al.drop s)) else none
  | none => none
def comp (P : Program) : Code → Option AC
  | .skip => some .skip
  | .region _ ops draw => match ops.toList.mapM (compOper P [] ops) with
    | some al => if draw = false then some (.reg al) else
      (drawn P ops [] (tailAt2 P al)).or ((drawn P ops (offLoads ops al (tailAt2 P al)) (tailAt2 P al)).or ((drawn P ops [] (tailAt al)).or (drawn P ops (offLoads ops al (tailAt al)) (tailAt al))))
    | none => none
  | .seq a b => match comp P a, comp P b with
    | some x, some y => some (.seq x y)
    | _, _ => none
  | .cond c a b => match comp P a, comp P b with
    | some x, some y => some (.cond c x y)
    | _, _ => none
  | .block id a => (comp P a).map (.block id)
  | .loop a => (comp P a).map .loop
  | .exit id => some (.exit id)
  | .scope a => comp P a
  | .ret => some .ret
  | _ => none

/-- the weakest precondition of code -/
def aw (P : Program) (n0 : Nat) : AC → (AX → List AV → AH → Prop) → List AV → AH → Prop
  | .skip, Q, T, h => Q .normal T h
  | .reg al, Q, T, h => arun P (fun c T h => Q (.pan c) T h) al T h (fun T h => Q .normal T h)
  | .drw b q t, Q, T, h => ∃ rs, adrun P rs h b T [] fun T ents => arunK P rs q t T (h ++ ents) (fun T h => Q .normal T h)
  | .seq a b, Q, T, h => aw P n0 a (AX.thn (fun T h => ∃ T1 h1, ALe n0 T h T1 h1 ∧ aw P n0 b Q T1 h1) Q) T h
  | .cond c a b, Q, T, h => match aEval T c with
    | .v (.bool t) => (t = true → aw P n0 a Q T h) ∧ (t = false → aw P n0 b Q T h)
    | _ => False
  | .block id a, Q, T, h => aw P n0 a (AX.blk id Q) T h
  | .loop a, Q, T, h => ∃ (I : Nat → List AV → AH → Prop) (n : Nat), (∃ T1 h1, ALe n0 T h T1 h1 ∧ I n T1 h1) ∧ ∀ n T h, I n T h → aw P n0 a (AX.thn (fun T' h' => ∃ m, m < n ∧ ∃ T1 h1, ALe n0 T' h' T1 h1 ∧ I m T1 h1) Q) T h
  | .exit id, Q, T, h => Q (.exit id) T h
  | .ret, Q, T, h => Q .ret T h

theorem comp_sound : ∀ (c : Code) (ac : AC), comp P c = some ac → ∀ {Q : AX → List AV → AH → Prop} {T : List AV} {h : AH}, aw P n0 ac Q T h → AW P n0 c Q T h := by
  intro c
  induction c with
  | skip => intro ac hc Q T h hw; cases hc; exact AW_skip hw
  | region id ops draw =>
    intro ac hc Q T h hw
    simp only [comp] at hc
    split at hc <;> try (cases hc; done)
    rename_i al hm
    split at hc
    · rename_i hd; subst hd; cases hc; exact AW_region hm hw
    · rename_i hd
      obtain rfl : draw = true := by simpa using hd
      have key : ∀ S s, drawn P ops S s = some ac → AW P n0 (.region id ops true) Q T h := by
        intro S s hd
        unfold drawn at hd
        split at hd <;> try (cases hd; done)
        rename_i al2 hm2
        split at hd <;> try (cases hd; done)
        rename_i hcond
        cases hd
        obtain ⟨rs, hw⟩ := hw
        exact AW_region_drawn hcond.1 hcond.2.1 hm2 hcond.2.2.1 hcond.2.2.2 hw
      rcases Option.or_eq_some_iff.1 hc with h1 | ⟨_, hc⟩
      · exact key _ _ h1
      rcases Option.or_eq_some_iff.1 hc with h1 | ⟨_, hc⟩
      · exact key _ _ h1
      rcases Option.or_eq_some_iff.1 hc with h1 | ⟨_, hc⟩
      · exact key _ _ h1
      · exact key _ _ hc
  | seq a b iha ihb =>
    intro ac hc Q T h hw
    simp only [comp] at hc
    split at hc <;> try (cases hc; done)
    rename_i x y hx hy
    cases hc
    refine AW_seq ((iha x hx hw).mono ?_)
    intro z T' h' hq
    cases z <;> simp only [AX.thn] at hq ⊢ <;> first | exact hq | (obtain ⟨T1, h1, hle, hq⟩ := hq; exact AW_le hle (ihb y hy hq))
  | cond c a b iha ihb =>
    intro ac hc Q T h hw
    simp only [comp] at hc
    split at hc <;> try (cases hc; done)
    rename_i x y hx hy
    cases hc
    simp only [aw] at hw
    split at hw <;> try (exact hw.elim)
    rename_i t ht
    exact AW_cond ht (fun e => iha x hx (hw.1 e)) (fun e => ihb y hy (hw.2 e))
  | block id a iha =>
    intro ac hc Q T h hw
    simp only [comp, Option.map_eq_some_iff] at hc
    obtain ⟨x, hx, rfl⟩ := hc
    exact AW_block (iha x hx hw)
  | loop a iha =>
    intro ac hc Q T h hw
    simp only [comp, Option.map_eq_some_iff] at hc
    obtain ⟨x, hx, rfl⟩ := hc
    obtain ⟨I, n, h0, hr⟩ := hw
    refine AW_loop (fun n T h => ∃ T1 h1, ALe n0 T h T1 h1 ∧ I n T1 h1) n h0 ?_
    rintro n T h ⟨T1, h1, hle, hI⟩
    exact AW_le hle (iha x hx (hr n T1 h1 hI))
  | rangeFunc f ps x y iha ihb => intro ac hc; cases hc
  | exit id => intro ac hc Q T h hw; cases hc; exact AW_exit hw
  | scope a iha => intro ac hc Q T h hw; exact AW_scope (iha ac hc hw)
  | label l => intro ac hc; cases hc
  | goto l => intro ac hc; cases hc
  | ret => intro ac hc Q T h hw; cases hc; exact AW_ret hw
  | refuse w => intro ac hc; cases hc

inductive AR where
  | tmp (t : Nat)
  | cell (t : Nat) (agg : Bool) (sz : Nat)
def aRes1 (T : List AV) (h : AH) : AR → Option AV
  | .tmp t => T[t]?
  | .cell t agg sz => match T[t]? with
    | some p => (cellsAt h p).bind (loadAV agg sz)
    | none => none
def aRes (rs : List AR) (T : List AV) (h : AH) : Option AV :=
  match rs.mapM (aRes1 T h) with
  | some [c] => some c
  | some cs => some (.tup cs)
  | none => none
def compRes (P : Program) : ResultVar → Option AR
  | .tmp t => some (.tmp t)
  | .cell a t => match P.underlying t, P.info? t with
    | some d, some i => some (.cell a (isAggD d) i.size)
    | _, _ => none
def retA (rs : List AR) (R : AE → AH → Prop) : AX → List AV → AH → Prop
  | .normal, T, h => match aRes rs T h with
    | some c => R (.ret c) h
    | none => False
  | .ret, T, h => match aRes rs T h with
    | some c => R (.ret c) h
    | none => False
  | .pan c, _, h => R (.pan c) h
  | .exit _, _, _ => False

def rvS (tmps : Array Value) (r : ResultVar) : Sem Value :=
  match r with
  | .tmp t => pure (tmps.getD t undef)
  | .cell a t => do loadVar t (← asAddr (tmps.getD a undef))
theorem results_rvS (fn : Func) (tmps : Array Value) : results fn tmps = (do
    let vs ← fn.results.mapM (rvS tmps)
    pure (if h : vs.size = 1 then vs[0] else .tuple vs)) := by
  unfold results
  congr 2
theorem run_results1 {r : ResultVar} {ar : AR} (hc : compRes P r = some ar) {T : List AV} {h : AH} {c : AV} (hv : aRes1 T h ar = some c) {w : World} {g : Gh} {a : List Value} (hs : SimH w g h) (ht : RepL w g T a) :
    ∃ v, (rvS a.toArray r).run P w = .ok v w ∧ Rep w g c v := by
  cases r with
  | tmp t =>
    cases hc
    obtain ⟨u, h1, h2⟩ := ht.get (show T[t]? = some c from hv)
    refine ⟨u, ?_, h2⟩
    have : a.toArray[t]? = some u := by simpa using h1
    simp [rvS, this]
  | cell b t =>
    simp only [compRes] at hc
    split at hc <;> try (cases hc; done)
    rename_i d i hd hi
    cases hc
    simp only [aRes1] at hv
    split at hv <;> try (cases hv; done)
    rename_i p hp
    simp only [Option.bind_eq_some_iff] at hv
    obtain ⟨cs, h1, h2⟩ := hv
    obtain ⟨u, h3, h4⟩ := ht.get hp
    obtain ⟨bb, off, e, hrc⟩ := cellsAt_rep hs h4 h1
    obtain ⟨v, h5, h6⟩ := run_loadAV (P := P) hrc h2 (run_isAgg hd w) (run_sizeOf hi w)
    refine ⟨v, ?_, h6⟩
    have hu : a.toArray[b]? = some u := by simpa using h3
    have : a.toArray.getD b undef = .pointer (some ⟨bb, off, none⟩) := by simp [hu, e]
    simp only [rvS, this]
    simpa [asAddr, Instr.loadAt, Instr.sureAddr] using h5
theorem run_resultsL {T : List AV} {h : AH} {w : World} {g : Gh} {a : List Value} (hs : SimH w g h) (ht : RepL w g T a) : ∀ (rl : List ResultVar) (rs : List AR) (cs : List AV), rl.mapM (compRes P) = some rs → rs.mapM (aRes1 T h) = some cs →
    ∃ vs, (rl.mapM (rvS a.toArray)).run P w = .ok vs w ∧ RepL w g cs vs
  | [], rs, cs, h1, h2 => by simp at h1; subst h1; simp at h2; subst h2; exact ⟨[], by simp, by simp only [RepL]⟩
  | r :: rl, rs, cs, h1, h2 => by
    simp only [List.mapM_cons, Option.bind_eq_bind, Option.bind_eq_some_iff, Option.pure_def, Option.some.injEq] at h1
    obtain ⟨ar, k1, rs', k2, rfl⟩ := h1
    simp only [List.mapM_cons, Option.bind_eq_bind, Option.bind_eq_some_iff, Option.pure_def, Option.some.injEq] at h2
    obtain ⟨c, k3, cs', k4, rfl⟩ := h2
    obtain ⟨v, e1, e2⟩ := run_results1 k1 k3 hs ht
    obtain ⟨vs, e3, e4⟩ := run_resultsL hs ht rl rs' cs' k2 k4
    refine ⟨v :: vs, ?_, by simp only [RepL]; exact ⟨v, vs, rfl, e2, e4⟩⟩
    simp only [List.mapM_cons, Sem.run_bind, e1, Result.andThen_ok, e3, Sem.run_pure]
theorem run_results {fn : Func} {rs : List AR} (hrs : fn.results.toList.mapM (compRes P) = some rs) {T : List AV} {h : AH} {c : AV} (hc : aRes rs T h = some c) {w : World} {g : Gh} {a : List Value} (hs : SimH w g h) (ht : RepL w g T a) :
    ∃ v, (results fn a.toArray).run P w = .ok v w ∧ Rep w g c v := by
  unfold aRes at hc
  cases hm : rs.mapM (aRes1 T h) with
  | none => simp [hm] at hc
  | some cs =>
    obtain ⟨vs, h1, h2⟩ := run_resultsL hs ht fn.results.toList rs cs hrs hm
    have hrun : (results fn a.toArray).run P w = .ok (if h : vs.toArray.size = 1 then vs.toArray[0] else .tuple vs.toArray) w := by
      rw [results_rvS]
      rw [Array.mapM_eq_mapM_toList]
      simp only [Sem.run_bind, Sem.run_map]
      rw [h1]
      simp
    have hl := h2.length
    rw [hm] at hc
    match cs, hc with
    | [c'], hc =>
      cases hc
      simp only [RepL] at h2
      obtain ⟨u, us, rfl, h3, rfl⟩ := h2
      exact ⟨u, by rw [hrun]; simp, h3⟩
    | [], hc =>
      cases hc
      have : vs = [] := by simpa using hl
      subst this
      exact ⟨.tuple #[], by rw [hrun]; simp, by simp only [Rep]; exact ⟨#[], rfl, by simp only [RepL]⟩⟩
    | c1 :: c2 :: cs', hc =>
      cases hc
      have hne : ¬ vs.toArray.size = 1 := by simp [hl]
      exact ⟨.tuple vs.toArray, by rw [hrun, dif_neg hne], by simp only [Rep]; exact ⟨_, rfl, by simpa using h2⟩⟩

/-- a function's code written out -/
structure AF where
  code : AC
  res : List AR
  ntmps : Nat
def compF (P : Program) (f : FuncId) : Option AF :=
  match P.funcs[f]? with
  | some fn => if fn.name == "runtime.NumGoroutine" then none else match fn.body with
    | some c => match comp P c, fn.results.toList.mapM (compRes P) with
      | some ac, some rs => some ⟨ac, rs, fn.ntmps⟩
      | _, _ => none
    | none => none
  | none => none
theorem ACalls.of_aw {f : FuncId} {af : AF} (hc : compF P f = some af) {args : List AV} {h : AH} {R : AE → AH → Prop} (hw : aw P h.length af.code (retA af.res R) (args ++ List.replicate (af.ntmps - args.length) .any) h) : ACalls P f args h R := by
  unfold compF at hc
  split at hc <;> try (cases hc; done)
  rename_i fn hfn
  split at hc <;> try (cases hc; done)
  rename_i hname
  split at hc <;> try (cases hc; done)
  rename_i c hb
  split at hc <;> try (cases hc; done)
  rename_i ac rs hac hrs
  cases hc
  refine ACalls.of_AW hfn hb ?_ ((comp_sound c ac hac hw).mono ?_)
  · simp only [enters, hfn, hb]
    simp only [Bool.not_eq_true] at hname
    simp [bne, hname]
  · intro x T' h' hq
    cases x <;> simp only [retA, RetQ] at hq ⊢
    · split at hq <;> try (exact hq.elim)
      rename_i r hr
      exact ⟨r, fun w g a hs ht => run_results hrs hr hs ht, hq⟩
    · split at hq <;> try (exact hq.elim)
      rename_i r hr
      exact ⟨r, fun w g a hs ht => run_results hrs hr hs ht, hq⟩
    · exact hq

end
end Go.Ab
