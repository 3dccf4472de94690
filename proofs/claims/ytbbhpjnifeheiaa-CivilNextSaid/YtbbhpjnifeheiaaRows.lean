/-
  No cell of these rows narrows 'for every input' (looked for: loops, veiled, ifaces, maps, wideKeys, modest, calm, conditions, laid).
  DERIVED. THE GIVEN ROWS OF THIS SEAT. 6 by the template 'for every input the law returns true; each argument reads behind the call as it read before'; 0 by the template 'total and deterministic' (their statements: YtbbhpjnifeheiaaTotals.lean).
  GIVEN WITH THE SEED: the statements are not yours to turn. If you find one false, say at which input.
  Laid BY PROGRAM, IN A SANDBOX (cutbox-rows.mjs): the forced cells as the released guide's own fill.sh prints them over the translation c029407fee0e4a7f… (all of the seat's roots in one cut). By AI agents, Wed Nov 11 2026. No macro, syntax, notation, axiom, sorry.
-/
import Derived.Test.YtbbhpjnifeheiaaChecked
import GoSem.Claim
import GoSem.ClaimJoined
import GoSem.ClaimMapViews
import Derived.JoinedTies
import Derived.KernelRfl
namespace Go.Proofs.Ytbbhpjnifeheiaa
/- THE CELL 'sum', in the pinned program and in every row, IS THE sha256 OF THE DUMP (.gsa) THAT YtbbhpjnifeheiaaProg.lean LOADS. Nothing in Lean hashes anything: it is a label: what it is worth is what the hold of that sum in a sandbox is worth. -/
noncomputable def Try.pinned : Pinned := { name := "ytbbhpjnifeheiaa", sum := "c029407fee0e4a7f0a873e6a55eee6d2dc33db7bbae887c8c43e711b35b0ea01", checked := Try.checked }
namespace Rows
def none {H : Type} : Left H := { results := [], args := [] }

/-- 'datelinelaw.CivilCycle': WHATEVER THE INPUT: true; the input reads as it did. -/
def civilCycleSpec : ChangeSpec := { name := "civilCycle", fn := fun _ => fun
  | [d] => { results := [.lit (.bool true)], args := [d] }
  | _ => none }
def civilCycleRow : OpenClaim := { program := "ytbbhpjnifeheiaa", sum := "c029407fee0e4a7f0a873e6a55eee6d2dc33db7bbae887c8c43e711b35b0ea01", func := "dateline/datelinelaw.CivilCycle", spec := "civilCycle", apart := false }
def CivilCycleSaid : Prop := civilCycleRow.holds Try.pinned (OpenSpec.ofChange civilCycleSpec)

/-- ITS FALSE NEIGHBOUR: 'it returns false'. Refute it at one input. -/
def civilCycleWrong : ChangeSpec := { name := "civilCycle", fn := fun _ => fun
  | [d] => { results := [.lit (.bool false)], args := [d] }
  | _ => none }
def CivilCycleWrongFalsely : Prop := civilCycleRow.holds Try.pinned (OpenSpec.ofChange civilCycleWrong)

/-- 'datelinelaw.CivilOrder': WHATEVER THE INPUT: true; the input reads as it did. -/
def civilOrderSpec : ChangeSpec := { name := "civilOrder", fn := fun _ => fun
  | [d1, d2] => { results := [.lit (.bool true)], args := [d1, d2] }
  | _ => none }
def civilOrderRow : OpenClaim := { program := "ytbbhpjnifeheiaa", sum := "c029407fee0e4a7f0a873e6a55eee6d2dc33db7bbae887c8c43e711b35b0ea01", func := "dateline/datelinelaw.CivilOrder", spec := "civilOrder", apart := false }
def CivilOrderSaid : Prop := civilOrderRow.holds Try.pinned (OpenSpec.ofChange civilOrderSpec)

/-- ITS FALSE NEIGHBOUR: 'it returns false'. Refute it at one input. -/
def civilOrderWrong : ChangeSpec := { name := "civilOrder", fn := fun _ => fun
  | [d1, d2] => { results := [.lit (.bool false)], args := [d1, d2] }
  | _ => none }
def CivilOrderWrongFalsely : Prop := civilOrderRow.holds Try.pinned (OpenSpec.ofChange civilOrderWrong)

/-- 'datelinelaw.CivilTells': WHATEVER THE INPUT: true; the input reads as it did. -/
def civilTellsSpec : ChangeSpec := { name := "civilTells", fn := fun _ => fun
  | [d1, d2] => { results := [.lit (.bool true)], args := [d1, d2] }
  | _ => none }
def civilTellsRow : OpenClaim := { program := "ytbbhpjnifeheiaa", sum := "c029407fee0e4a7f0a873e6a55eee6d2dc33db7bbae887c8c43e711b35b0ea01", func := "dateline/datelinelaw.CivilTells", spec := "civilTells", apart := false }
def CivilTellsSaid : Prop := civilTellsRow.holds Try.pinned (OpenSpec.ofChange civilTellsSpec)

/-- ITS FALSE NEIGHBOUR: 'it returns false'. Refute it at one input. -/
def civilTellsWrong : ChangeSpec := { name := "civilTells", fn := fun _ => fun
  | [d1, d2] => { results := [.lit (.bool false)], args := [d1, d2] }
  | _ => none }
def CivilTellsWrongFalsely : Prop := civilTellsRow.holds Try.pinned (OpenSpec.ofChange civilTellsWrong)

/-- 'datelinelaw.CivilOn': WHATEVER THE INPUT: true; the input reads as it did. -/
def civilOnSpec : ChangeSpec := { name := "civilOn", fn := fun _ => fun
  | [d1, d2, d3] => { results := [.lit (.bool true)], args := [d1, d2, d3] }
  | _ => none }
def civilOnRow : OpenClaim := { program := "ytbbhpjnifeheiaa", sum := "c029407fee0e4a7f0a873e6a55eee6d2dc33db7bbae887c8c43e711b35b0ea01", func := "dateline/datelinelaw.CivilOn", spec := "civilOn", apart := false }
def CivilOnSaid : Prop := civilOnRow.holds Try.pinned (OpenSpec.ofChange civilOnSpec)

/-- ITS FALSE NEIGHBOUR: 'it returns false'. Refute it at one input. -/
def civilOnWrong : ChangeSpec := { name := "civilOn", fn := fun _ => fun
  | [d1, d2, d3] => { results := [.lit (.bool false)], args := [d1, d2, d3] }
  | _ => none }
def CivilOnWrongFalsely : Prop := civilOnRow.holds Try.pinned (OpenSpec.ofChange civilOnWrong)

/-- 'datelinelaw.CivilNext': WHATEVER THE INPUT: true; the input reads as it did. -/
def civilNextSpec : ChangeSpec := { name := "civilNext", fn := fun _ => fun
  | [d] => { results := [.lit (.bool true)], args := [d] }
  | _ => none }
def civilNextRow : OpenClaim := { program := "ytbbhpjnifeheiaa", sum := "c029407fee0e4a7f0a873e6a55eee6d2dc33db7bbae887c8c43e711b35b0ea01", func := "dateline/datelinelaw.CivilNext", spec := "civilNext", apart := false }
def CivilNextSaid : Prop := civilNextRow.holds Try.pinned (OpenSpec.ofChange civilNextSpec)

/-- ITS FALSE NEIGHBOUR: 'it returns false'. Refute it at one input. -/
def civilNextWrong : ChangeSpec := { name := "civilNext", fn := fun _ => fun
  | [d] => { results := [.lit (.bool false)], args := [d] }
  | _ => none }
def CivilNextWrongFalsely : Prop := civilNextRow.holds Try.pinned (OpenSpec.ofChange civilNextWrong)

/-- 'datelinelaw.CivilForm': WHATEVER THE INPUT: true; the input reads as it did. -/
def civilFormSpec : ChangeSpec := { name := "civilForm", fn := fun _ => fun
  | [d1, d2, d3] => { results := [.lit (.bool true)], args := [d1, d2, d3] }
  | _ => none }
def civilFormRow : OpenClaim := { program := "ytbbhpjnifeheiaa", sum := "c029407fee0e4a7f0a873e6a55eee6d2dc33db7bbae887c8c43e711b35b0ea01", func := "dateline/datelinelaw.CivilForm", spec := "civilForm", apart := false }
def CivilFormSaid : Prop := civilFormRow.holds Try.pinned (OpenSpec.ofChange civilFormSpec)

/-- ITS FALSE NEIGHBOUR: 'it returns false'. Refute it at one input. -/
def civilFormWrong : ChangeSpec := { name := "civilForm", fn := fun _ => fun
  | [d1, d2, d3] => { results := [.lit (.bool false)], args := [d1, d2, d3] }
  | _ => none }
def CivilFormWrongFalsely : Prop := civilFormRow.holds Try.pinned (OpenSpec.ofChange civilFormWrong)

/- THE SECOND FORM. 'bulk': how many values and letters a reading holds, each counted each time it is reached (what is shared counts as often as it is met; a slice's spare places count too). A statement '..UptoSaid' is the law's where the arguments, and the package variables that the reading takes, are together of bulk at most 1048576: NARROWER than '..Said'. Prove '..Said' where nothing that the law and all that it calls make is longer than what came in: it says more and counts as full. Else prove '..UptoSaid'. A law counts once. -/
mutual
def uptoBulk {H : Type} : DataW H → Nat
  | .lit (.string bytes) => bytes.length + 1
  | .lit _ => 1
  | .nil => 1
  | .ptr d => uptoBulk d + 1
  | .slice elems spare => uptoBulkAll elems + uptoBulkAll spare + 1
  | .agg parts => uptoBulkAll parts + 1
  | .iface _ d => uptoBulk d + 1
  | .map entries => uptoBulkEntries entries + 1
  | .held _ => 1
def uptoBulkAll {H : Type} : List (DataW H) → Nat
  | [] => 0
  | d :: r => uptoBulk d + uptoBulkAll r
def uptoBulkEntries {H : Type} : List (Lit × DataW H) → Nat
  | [] => 0
  | x :: r => uptoBulkEntry x + uptoBulkEntries r
def uptoBulkEntry {H : Type} : Lit × DataW H → Nat
  | (.string bytes, d) => bytes.length + uptoBulk d + 1
  | (_, d) => uptoBulk d + 1
 end
def uptoSmall : (H : Type) → List (DataW H) → Bool := fun _ ds => decide (uptoBulkAll ds ≤ 1048576)
def OpenSpec.upto (s : _root_.Go.ChangeSpec) : _root_.Go.OpenSpec := { _root_.Go.OpenSpec.ofChange s with cond := some uptoSmall }

/-- 'datelinelaw.CivilCycle', WHERE WHAT IT READS IS OF BULK AT MOST 1048576: true; the input reads as it did. -/
def civilCycleUptoRow : OpenClaim := { program := "ytbbhpjnifeheiaa", sum := "c029407fee0e4a7f0a873e6a55eee6d2dc33db7bbae887c8c43e711b35b0ea01", func := "dateline/datelinelaw.CivilCycle", spec := "civilCycle", apart := false, narrowed := true }
def CivilCycleUptoSaid : Prop := civilCycleUptoRow.holds Try.pinned (OpenSpec.upto civilCycleSpec)

/-- 'datelinelaw.CivilOrder', WHERE WHAT IT READS IS OF BULK AT MOST 1048576: true; the input reads as it did. -/
def civilOrderUptoRow : OpenClaim := { program := "ytbbhpjnifeheiaa", sum := "c029407fee0e4a7f0a873e6a55eee6d2dc33db7bbae887c8c43e711b35b0ea01", func := "dateline/datelinelaw.CivilOrder", spec := "civilOrder", apart := false, narrowed := true }
def CivilOrderUptoSaid : Prop := civilOrderUptoRow.holds Try.pinned (OpenSpec.upto civilOrderSpec)

/-- 'datelinelaw.CivilTells', WHERE WHAT IT READS IS OF BULK AT MOST 1048576: true; the input reads as it did. -/
def civilTellsUptoRow : OpenClaim := { program := "ytbbhpjnifeheiaa", sum := "c029407fee0e4a7f0a873e6a55eee6d2dc33db7bbae887c8c43e711b35b0ea01", func := "dateline/datelinelaw.CivilTells", spec := "civilTells", apart := false, narrowed := true }
def CivilTellsUptoSaid : Prop := civilTellsUptoRow.holds Try.pinned (OpenSpec.upto civilTellsSpec)

/-- 'datelinelaw.CivilOn', WHERE WHAT IT READS IS OF BULK AT MOST 1048576: true; the input reads as it did. -/
def civilOnUptoRow : OpenClaim := { program := "ytbbhpjnifeheiaa", sum := "c029407fee0e4a7f0a873e6a55eee6d2dc33db7bbae887c8c43e711b35b0ea01", func := "dateline/datelinelaw.CivilOn", spec := "civilOn", apart := false, narrowed := true }
def CivilOnUptoSaid : Prop := civilOnUptoRow.holds Try.pinned (OpenSpec.upto civilOnSpec)

/-- 'datelinelaw.CivilNext', WHERE WHAT IT READS IS OF BULK AT MOST 1048576: true; the input reads as it did. -/
def civilNextUptoRow : OpenClaim := { program := "ytbbhpjnifeheiaa", sum := "c029407fee0e4a7f0a873e6a55eee6d2dc33db7bbae887c8c43e711b35b0ea01", func := "dateline/datelinelaw.CivilNext", spec := "civilNext", apart := false, narrowed := true }
def CivilNextUptoSaid : Prop := civilNextUptoRow.holds Try.pinned (OpenSpec.upto civilNextSpec)

/-- 'datelinelaw.CivilForm', WHERE WHAT IT READS IS OF BULK AT MOST 1048576: true; the input reads as it did. -/
def civilFormUptoRow : OpenClaim := { program := "ytbbhpjnifeheiaa", sum := "c029407fee0e4a7f0a873e6a55eee6d2dc33db7bbae887c8c43e711b35b0ea01", func := "dateline/datelinelaw.CivilForm", spec := "civilForm", apart := false, narrowed := true }
def CivilFormUptoSaid : Prop := civilFormUptoRow.holds Try.pinned (OpenSpec.upto civilFormSpec)

end Rows
end Go.Proofs.Ytbbhpjnifeheiaa
