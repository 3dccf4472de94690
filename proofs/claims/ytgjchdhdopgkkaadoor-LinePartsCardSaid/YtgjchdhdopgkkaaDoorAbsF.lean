/-
  Stepping on plain data: calls that give up by a panic, calls of function values in regions that draw their order. No condition.
-/
import Derived.Test.YtgjchdhdopgkkaaDoorAbsE
set_option linter.unusedVariables false
set_option linter.unusedSimpArgs false
namespace Go.Ab
section
variable {P : Program} {n0 : Nat} {T T' : List AV} {h h' h0 : AH} {c : AV} {d : Option Nat} {rest : List AOper} {K : List AV → AH → Prop} {Kp : AV → List AV → AH → Prop} {Q : AX → List AV → AH → Prop} {rs : List Nat} {ents : AH} {K2 : List AV → AH → Prop}
theorem s_callPan {f : FuncId} {xs : List Operand} {as1 : List AV} (hx : xs.map (aEval T) = as1) (hc : ACalls P f as1 h fun r h'' => r = .pan c ∧ h'' = h') (hk : Kp c T h') : arun P Kp (⟨d, none, .call (.func f) xs⟩ :: rest) T h K :=
  s_call hx hc fun r h'' ⟨h1, h2⟩ => by subst h1 h2; exact hk
theorem s_callPan' {f : FuncId} {xs : List Operand} {as1 : List AV} (hx : xs.map (aEval T) = as1) (hc : ACalls P f as1 h fun r h'' => h'' = h ∧ r = .pan c) (hk : Kp c T h) : arun P Kp (⟨d, none, .call (.func f) xs⟩ :: rest) T h K :=
  s_call hx hc fun r h'' ⟨h1, h2⟩ => by subst h1 h2; exact hk
theorem s_callPanX {f : FuncId} {xs : List Operand} {as1 : List AV} {Pp : AH → Prop} (hx : xs.map (aEval T) = as1) (hc : ACalls P f as1 h fun r h'' => r = .pan c ∧ Pp h'') (hk : ∀ h'', Pp h'' → Kp c T h'') : arun P Kp (⟨d, none, .call (.func f) xs⟩ :: rest) T h K :=
  s_call hx hc fun r h'' ⟨h1, h2⟩ => by subst h1; exact hk _ h2
theorem p_thn {N : List AV → AH → Prop} (hr : Q (.pan c) T h) : AX.thn N Q (.pan c) T h := hr
theorem p_blk {i : Nat} (hr : Q (.pan c) T h) : AX.blk i Q (.pan c) T h := hr
theorem w_pan {rr : List AR} {R : AE → AH → Prop} (hR : R (.pan c) h) : retA rr R (.pan c) T h := hR
theorem d_callT {f : FuncId} {x : Operand} {xs : List Operand} {as1 : List AV} (hf : aEval T x = .v (.func (.func f) #[] #[])) (hx : xs.map (aEval T) = as1) (hc : ∀ h, HExt h0 h → ACalls P f as1 h fun r h' => h' = h ∧ r = .ret c) (hp : aPut T d c = T') (hk : adrun P rs h0 rest T' ents K2) :
    adrun P rs h0 (⟨d, none, .call x xs⟩ :: rest) T ents K2 := by
  unfold adrun agd
  refine ⟨fun _ => ?_, fun h => by cases h⟩
  unfold adstep
  simp only [hf]
  refine ⟨c, fun h hE => ?_, by rw [hp]; exact hk⟩
  unfold aCall
  exact ⟨rfl, rfl, by rw [hx]; exact hc h hE⟩
theorem d_callC {f : FuncId} {x : Operand} {xs : List Operand} {as1 caps : List AV} (hf : aEval T x = .clo (.func f) caps) (hx : xs.map (aEval T) = as1) (hc : ∀ h, HExt h0 h → ACalls P f (as1 ++ caps) h fun r h' => h' = h ∧ r = .ret c) (hp : aPut T d c = T') (hk : adrun P rs h0 rest T' ents K2) :
    adrun P rs h0 (⟨d, none, .call x xs⟩ :: rest) T ents K2 := by
  unfold adrun agd
  refine ⟨fun _ => ?_, fun h => by cases h⟩
  unfold adstep
  simp only [hf]
  refine ⟨c, fun h hE => ?_, by rw [hp]; exact hk⟩
  unfold aCall
  rw [hx]; exact hc h hE
end
end Go.Ab
