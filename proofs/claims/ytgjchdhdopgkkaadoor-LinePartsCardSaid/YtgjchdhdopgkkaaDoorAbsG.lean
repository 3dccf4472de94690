/-
  Functions that lay one deferred closure at their beginning, on plain data. No condition.
-/
import Derived.Test.YtgjchdhdopgkkaaDoorAbsF
import Derived.Defers
import Derived.Recover
set_option linter.unusedVariables false
set_option linter.unusedSimpArgs false
namespace Go.Ab
section
variable {P : Program}
/-- a function that lays one deferred closure behind its first variables: the first region; the closure's slot, number and what it holds; the rest -/
structure AFD where
  al : List AOper
  d : Nat
  k : Nat
  caps : List Operand
  af : AF
def compFD (P : Program) (f : FuncId) : Option AFD :=
  match P.funcs[f]? with
  | some fn => if fn.name == "runtime.NumGoroutine" then none else match fn.body with
    | some (.seq (.region _ ops0 false) (.seq (.region _ ops1 false) c)) =>
      match ops0.toList.mapM (compOper P [] ops0), ops1.toList, comp P c, fn.results.toList.mapM (compRes P) with
      | some al, [o1, o2], some ac, some rs => match o1.dst, o1.op, o1.guard, o2.dst, o2.op, o2.guard with
        | some d, .makeFunc (.func k) first caps, none, none, .defer cl, none => match cl.callee with
          | .value (.tmp t) => if first = #[] ∧ t = d ∧ cl.args = #[] ∧ enters P k = true then some ⟨al, d, k, caps.toList, ⟨ac, rs, fn.ntmps⟩⟩ else none
          | _ => none
        | _, _, _, _, _, _ => none
      | _, _, _, _ => none
    | _ => none
  | none => none
def compFD1 (P : Program) (f : FuncId) : Option AF := (compFD P f).map (·.af)
def compFD2 (P : Program) (f : FuncId) : Option (List AOper × Nat × Nat × List Operand) := (compFD P f).map fun x => (x.al, x.d, x.k, x.caps)
/-- what a deferred closure does: to a frame that returns, to one that panics with c and is caught -/
def ADef (P : Program) (k : FuncId) (cv : List AV) (m : Option AV) (h : AH) (R : AH → Prop) : Prop :=
  ∀ w g (vs : Array Value), SimH w g h → RepL w g cv vs.toList → match m with
    | none => CallsD P k vs .returning w fun e u' w' => (∃ v, e = .returned v) ∧ u' = .returning ∧ ∃ h' g', SimH w' g' h' ∧ g.le g' ∧ Fr w (Ow g h) w' ∧ (∀ k, Ow g' h' k → Ow g h k ∨ w.heap.size ≤ k) ∧ R h'
    | some c => ∀ v, Rep w g c v → CallsD P k vs (.panicking [{ v := v, recovered := false }]) w fun e u' w' => (∃ x, e = .returned x) ∧ (∃ x, u' = .panicking [{ v := x, recovered := true }]) ∧
        ∃ h' g', SimH w' g' h' ∧ g.le g' ∧ Fr w (Ow g h) w' ∧ (∀ k, Ow g' h' k → Ow g h k ∨ w.heap.size ≤ k) ∧ R h'
/-- the door -/
def doorA (P : Program) (k : FuncId) (cv : List AV) (rs : List AR) (R : AE → AH → Prop) : AX → List AV → AH → Prop
  | .normal, T, h => ADef P k cv none h fun h' => ∃ c, aRes rs T h' = some c ∧ R (.ret c) h'
  | .ret, T, h => ADef P k cv none h fun h' => ∃ c, aRes rs T h' = some c ∧ R (.ret c) h'
  | .pan c, T, h => ADef P k cv (some c) h fun h' => ∃ r, aRes rs T h' = some r ∧ R (.ret r) h'
  | .exit _, _, _ => False
theorem run_invokeF {k : FuncId} (he : enters P k = true) (cap : Array Value) (w : World) : (invoke (.fn (.func k) cap) #[]).run P w = .ok (.enter k cap) w := by
  unfold enters at he
  split at he <;> try (cases he; done)
  rename_i fd hfd
  simp only [Bool.and_eq_true, bne_iff_ne, ne_eq] at he
  have hb : fd.body ≠ none := by intro e; simp [e] at he
  simp [invoke, callFunc, hfd, he.1, hb]
theorem wp_makeDefer {id : Nat} {ops1 : Array Oper} {o1 o2 : Oper} {d k : Nat} {first caps : Array Operand} {cl : Call} (hops : ops1.toList = [o1, o2]) (h1 : o1.dst = some d) (h2 : o1.op = .makeFunc (.func k) first caps) (h3 : o1.guard = none) (h4 : o2.dst = none)
    (h5 : o2.op = .defer cl) (h6 : o2.guard = none) (h7 : cl.callee = .value (.tmp d)) (h8 : cl.args = #[]) (h9 : first = #[]) {a : Act} {w : World} {Q : Exit → Act → World → Prop} (hd : d < a.tmps.size)
    (hQ : Q .normal { tmps := a.tmps.setIfInBounds d (.func (.func k) #[] (caps.map a.eval)), defers := { target := .fn (.func k) (caps.map a.eval), args := #[] } :: a.defers } w) : (Code.region id ops1 false).wp P Q a w := by
  obtain ⟨l⟩ := ops1
  simp only at hops
  subst hops h9
  refine wp_region_lit ?_
  refine wpList_plain h3 fun K1 hK1 => ?_
  have e1 : (execOp a.eval o1).run P w = .ok (.value (.func (.func k) #[] (caps.map a.eval))) w := by simp [execOp, h2, Instr.makeFunc]
  unfold Oper.wp
  rw [e1, Oper.upon_value, h1]
  refine hK1 _ _ ?_
  refine wpList_plain h6 fun K2 hK2 => ?_
  have e2 : (Act.eval (a.put (some d) (.func (.func k) #[] (caps.map a.eval))) (.tmp d)) = .func (.func k) #[] (caps.map a.eval) := by simp [Act.eval, Act.put, hd]
  have e3 : (execOp (Act.eval (a.put (some d) (.func (.func k) #[] (caps.map a.eval)))) o2).run P w = .ok (.defer { target := .fn (.func k) (caps.map a.eval), args := #[] }) w := by
    simp [execOp, h5, resolve, h7, h8, e2, Deferred.ofValue]
  unfold Oper.wp
  rw [e3, Oper.upon_defer, h4]
  exact hK2 _ _ (wpList_nil hQ)
/-- behind the door -/
theorem leaves_A {fn : Func} {rs : List AR} (hrs : fn.results.toList.mapM (compRes P) = some rs) {k : FuncId} (hk : enters P k = true) {cv : List AV} {R : AE → AH → Prop} {x : AX} {T : List AV} {h : AH} {w : World} {g : Gh} {a : Act} {vals : Array Value} {e : Exit} {RR : Ending → World → Prop}
    (hs : SimH w g h) (ht : RepL w g T a.tmps.toList) (hd : a.defers = [{ target := .fn (.func k) vals, args := #[] }]) (hv : RepL w g cv vals.toList) (hx : ExR w g e x) (hdoor : doorA P k cv rs R x T h)
    (hR : ∀ c v w' h' g', Rep w' g' c v → SimH w' g' h' → g.le g' → Fr w (Ow g h) w' → (∀ k, Ow g' h' k → Ow g h k ∨ w.heap.size ≤ k) → R (.ret c) h' → RR (.returned v) w') : bodyPostD P fn RR e a w := by
  have fin : ∀ w' h' g', SimH w' g' h' → g.le g' → Fr w (Ow g h) w' → (∀ k, Ow g' h' k → Ow g h k ∨ w.heap.size ≤ k) → (∃ c, aRes rs T h' = some c ∧ R (.ret c) h') → Leaves P fn a.tmps RR [] .returning w' := by
    rintro w' h' g' q1 q2 q3 q4 ⟨c, q5, q6⟩
    have ht' := RepL.mono q2 (fun k hk => q3.block k (hs.lt k hk) (fun ho => (hs.own_not_D ho).1 hk)) _ _ ht
    obtain ⟨v, r1, r2⟩ := run_results hrs q5 q1 ht'
    exact ⟨v, by simpa using r1, hR c v w' h' g' r2 q1 q2 q3 q4 q6⟩
  have go : ∀ {u : FrameMode}, u ≠ .run → (CallsD P k vals u w fun e u' w' => (∃ v, e = .returned v) ∧ settle u' = .returning ∧ Leaves P fn a.tmps RR [] .returning w') → Leaves P fn a.tmps RR a.defers u w := by
    intro u hu hc
    rw [hd]
    refine leaves_cons hu (run_invokeF hk vals w) (hc.mono ?_)
    rintro e u' w' ⟨⟨v, rfl⟩, h2, h3⟩
    simp only [h2]
    exact h3
  cases x <;> cases e <;> simp only [ExR] at hx <;> simp only [doorA] at hdoor <;> try (exact hdoor.elim)
  · refine go (by simp) ((hdoor w g vals hs hv).mono ?_)
    rintro e u' w' ⟨⟨v, rfl⟩, rfl, h', g', q1, q2, q3, q4, q5⟩
    exact ⟨⟨v, rfl⟩, rfl, fin w' h' g' q1 q2 q3 q4 q5⟩
  · refine go (by simp) ((hdoor w g vals hs hv).mono ?_)
    rintro e u' w' ⟨⟨v, rfl⟩, rfl, h', g', q1, q2, q3, q4, q5⟩
    exact ⟨⟨v, rfl⟩, rfl, fin w' h' g' q1 q2 q3 q4 q5⟩
  · obtain ⟨v, rfl, hc⟩ := hx
    refine go (by simp) ((hdoor w g vals hs hv v hc).mono ?_)
    rintro e u' w' ⟨⟨v', rfl⟩, ⟨x, rfl⟩, h', g', q1, q2, q3, q4, q5⟩
    exact ⟨⟨v', rfl⟩, rfl, fin w' h' g' q1 q2 q3 q4 q5⟩
def afterR0 (P : Program) (fd : AFD) (R : AE → AH → Prop) (x : AX) (T1 : List AV) (h1 : AH) : Prop := x = .normal ∧ fd.d < T1.length ∧ aw P h1.length fd.af.code (doorA P fd.k (fd.caps.map (aEval T1)) fd.af.res R) (T1.set fd.d .any) h1
theorem ACalls.of_defer {f : FuncId} {fd : AFD} (hc : compFD P f = some fd) (he : enters P f = true) {args : List AV} {h : AH} {R : AE → AH → Prop}
    (hw : arun P (fun c T h => afterR0 P fd R (.pan c) T h) fd.al (args ++ List.replicate (fd.af.ntmps - args.length) .any) h (fun T1 h1 => afterR0 P fd R .normal T1 h1)) : ACalls P f args h R := by
  unfold compFD at hc
  split at hc <;> try (cases hc; done)
  rename_i fn hfn
  split at hc <;> try (cases hc; done)
  split at hc <;> try (cases hc; done)
  rename_i i0 ops0 i1 ops1 c hb
  split at hc <;> try (cases hc; done)
  rename_i al o1 o2 ac rs hal ho12 hac hrs
  split at hc <;> try (cases hc; done)
  rename_i d k first caps cl hd1 hop1 hg1 hd2 hop2 hg2
  split at hc <;> try (cases hc; done)
  rename_i t hcal
  split at hc <;> try (cases hc; done)
  rename_i hcond
  obtain ⟨rfl, rfl, hargs, hek⟩ := hcond
  cases hc
  simp only at hw
  refine ⟨he, fun w g vs hs ha => calls_of_wp_defers hfn hb ?_⟩
  have hlen : vs.size = args.length := by simpa using ha.length
  have hst : St h.length w (Ow g h) ⟨g.D, g.loc, []⟩ (args ++ List.replicate (fn.ntmps - args.length) .any) h { tmps := vs ++ Array.replicate (fn.ntmps - vs.size) undef, defers := [] } w g := by
    refine ⟨?_, rfl, hs, Fr.refl _ _, ⟨fun _ h => h, fun _ _ _ h => h⟩, fun i v l hl => (hs.fresh i v l hl).1, fun k hk => .inl hk⟩
    simp only [Array.toList_append, Array.toList_replicate, hlen]
    refine ha.append ?_
    have := repL_any w g (List.replicate (fn.ntmps - args.length) undef)
    simpa using this
  refine wp_seq (wp_mono (AW_region (n0 := h.length) (Q := afterR0 P ⟨al, t, k, caps.toList, ⟨ac, rs, fn.ntmps⟩⟩ R) hal hw w (Ow g h) ⟨g.D, g.loc, []⟩ _ w g hst) ?_)
  rintro e1 a1 w1 ⟨x1, T1, h1, g1, st1, hx1, rfl, hl1, hw1⟩
  cases e1 <;> simp only [ExR] at hx1
  show Code.wp P _ _ a1 w1
  have hl1' := st1.tmps.length
  refine wp_seq (wp_makeDefer ho12 hd1 hop1 hg1 hd2 hop2 hg2 hcal hargs rfl (by simp only [Array.length_toList] at hl1'; rw [hl1']; exact hl1) ?_)
  show Code.wp P _ _ _ w1
  have hcv : RepL w1 g1 (caps.toList.map (aEval T1)) (caps.map a1.eval).toList := by
    simpa using repL_map (τ := aEval T1) (ρ := a1.eval) caps.toList (fun x _ => aEval_rep st1.tmps x)
  have st2 : St h1.length w1 (Ow g1 h1) ⟨g1.D, g1.loc, [{ target := .fn (.func k) (caps.map a1.eval), args := #[] }]⟩ (T1.set t .any) h1 { tmps := a1.tmps.setIfInBounds t (.func (.func k) #[] (caps.map a1.eval)), defers := { target := .fn (.func k) (caps.map a1.eval), args := #[] } :: a1.defers } w1 g1 := by
    refine ⟨?_, ?_, st1.sim, Fr.refl _ _, ⟨fun _ h => h, fun _ _ _ h => h⟩, fun i v l hl => (st1.sim.fresh i v l hl).1, fun k hk => .inl hk⟩
    · simpa using st1.tmps.set (k := t) (c := .any) (u := .func (.func k) #[] (caps.map a1.eval)) (by simp only [Rep])
    · rw [st1.defers]
  refine wp_mono (comp_sound c ac hac hw1 w1 (Ow g1 h1) _ _ w1 g1 st2) ?_
  rintro e2 a2 w2 ⟨x2, T2, h2, g2, st2', hx2, hdoor⟩
  have hle : g1.le g2 := ⟨st2'.le.D, st2'.le.loc⟩
  refine leaves_A hrs hek st2'.sim st2'.tmps st2'.defers (RepL.mono hle (fun k hk => st2'.fr.block k (st1.sim.lt k hk) (fun ho => (st1.sim.own_not_D ho).1 hk)) _ _ hcv) hx2 hdoor ?_
  intro c' v w3 h3 g3 q1 q2 q3 q4 q5 q6
  have hle0 : g.le g1 := ⟨st1.le.D, st1.le.loc⟩
  refine ⟨.ret c', h3, g3, q1, q2, (hle0.trans hle).trans q3, ?_, ?_, q6⟩
  · refine (st1.fr.trans st2'.fr ?_).trans q4 ?_
    · intro i hi hlt
      exact (st1.ow i hi).resolve_right (by omega)
    · intro i hi hlt
      rcases st2'.ow i hi with ho | ho
      · exact (st1.ow i ho).resolve_right (by omega)
      · have := st1.fr.size; omega
  · intro i hi
    rcases q5 i hi with ho | ho
    · rcases st2'.ow i ho with ho | ho
      · exact st1.ow i ho
      · exact .inr (Nat.le_trans st1.fr.size ho)
    · exact .inr (Nat.le_trans (Nat.le_trans st1.fr.size st2'.fr.size) ho)
theorem ACalls.intoD {f : FuncId} {fd : AFD} (hc : compFD P f = some fd) (he : enters P f = true) {args T0 : List AV} {h : AH} {R : AE → AH → Prop} (hT : args ++ List.replicate (fd.af.ntmps - args.length) .any = T0)
    (hw : ∀ n, h.length = n → (∀ e ∈ h, e.lt n = true) → AV.ltL n args = true → AV.bdL args → arun P (fun c T h => afterR0 P fd R (.pan c) T h) fd.al T0 (h ++ []) (fun T1 h1 => afterR0 P fd R .normal T1 h1)) : ACalls P f args h R := by
  subst hT
  refine ⟨he, fun w g vs hs ha => (ACalls.of_defer (R := R) hc he ?_).2 w g vs hs ha⟩
  have := hw h.length rfl hs.ltE (RepL.lt (fun i v l hl => (hs.fresh i v l hl).1) _ _ ha) (RepL.bd _ _ ha)
  rwa [List.append_nil] at this
theorem afterR0.mk {fd : AFD} {R : AE → AH → Prop} {T T1 cv : List AV} {h : AH} {n : Nat} (hd : fd.d < T.length) (hp : aPut T (some fd.d) .any = T1) (hc : fd.caps.map (aEval T) = cv) (hn : h.length = n) (hw : ∀ M, M = n → aw P M fd.af.code (doorA P fd.k cv fd.af.res R) T1 h) : afterR0 P fd R .normal T h := by
  subst hp hc; exact ⟨rfl, hd, hw _ hn⟩
theorem door_ret {k : Nat} {cv T : List AV} {rs : List AR} {R : AE → AH → Prop} {h : AH} (hd : ADef P k cv none h fun h' => ∃ c, aRes rs T h' = some c ∧ R (.ret c) h') : doorA P k cv rs R .ret T h := hd
theorem door_end {k : Nat} {cv T : List AV} {rs : List AR} {R : AE → AH → Prop} {h : AH} (hd : ADef P k cv none h fun h' => ∃ c, aRes rs T h' = some c ∧ R (.ret c) h') : doorA P k cv rs R .normal T h := hd
theorem door_pan {k : Nat} {cv T : List AV} {rs : List AR} {R : AE → AH → Prop} {c : AV} {h : AH} (hd : ADef P k cv (some c) h fun h' => ∃ c, aRes rs T h' = some c ∧ R (.ret c) h') : doorA P k cv rs R (.pan c) T h := hd
end
end Go.Ab
