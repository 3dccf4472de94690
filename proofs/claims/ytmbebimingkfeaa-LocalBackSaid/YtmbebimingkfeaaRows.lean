/-
  No cell of these rows narrows 'for every input' (looked for: loops, veiled, ifaces, maps, wideKeys, modest, calm, conditions, laid).
  DERIVED. THE GIVEN ROWS OF THIS SEAT. 8 by the template 'for every input the law returns true; each argument reads behind the call as it read before'; 0 by the template 'total and deterministic' (their statements: YtmbebimingkfeaaTotals.lean).
  GIVEN WITH THE SEED: the statements are not yours to turn. If you find one false, say at which input.
  Laid BY PROGRAM, IN A SANDBOX (cutbox-rows.mjs): the forced cells as the released guide's own fill.sh prints them over the translation f8aafb4fd21b876c… (all of the seat's roots in one cut). By AI agents, Wed Nov 11 2026. No macro, syntax, notation, axiom, sorry.
-/
import Derived.Test.YtmbebimingkfeaaChecked
import GoSem.Claim
import GoSem.ClaimJoined
import GoSem.ClaimMapViews
import Derived.JoinedTies
import Derived.KernelRfl
namespace Go.Proofs.Ytmbebimingkfeaa
/- THE CELL 'sum', in the pinned program and in every row, IS THE sha256 OF THE DUMP (.gsa) THAT YtmbebimingkfeaaProg.lean LOADS. Nothing in Lean hashes anything: it is a label: what it is worth is what the hold of that sum in a sandbox is worth. -/
noncomputable def Try.pinned : Pinned := { name := "ytmbebimingkfeaa", sum := "f8aafb4fd21b876c92ba2fc41b99a4e06d6a30ffbc28beea52961d79876d7fc2", checked := Try.checked }
namespace Rows
def none {H : Type} : Left H := { results := [], args := [] }

/-- 'datelinelaw.DeltaLeast': WHATEVER THE INPUT: true; the input reads as it did. -/
def deltaLeastSpec : ChangeSpec := { name := "deltaLeast", fn := fun _ => fun
  | [d1, d2] => { results := [.lit (.bool true)], args := [d1, d2] }
  | _ => none }
def deltaLeastRow : OpenClaim := { program := "ytmbebimingkfeaa", sum := "f8aafb4fd21b876c92ba2fc41b99a4e06d6a30ffbc28beea52961d79876d7fc2", func := "dateline/datelinelaw.DeltaLeast", spec := "deltaLeast", unfollowed := true, recurses := true, apart := false }
def DeltaLeastSaid : Prop := deltaLeastRow.holds Try.pinned (OpenSpec.ofChange deltaLeastSpec)

/-- ITS FALSE NEIGHBOUR: 'it returns false'. Refute it at one input. -/
def deltaLeastWrong : ChangeSpec := { name := "deltaLeast", fn := fun _ => fun
  | [d1, d2] => { results := [.lit (.bool false)], args := [d1, d2] }
  | _ => none }
def DeltaLeastWrongFalsely : Prop := deltaLeastRow.holds Try.pinned (OpenSpec.ofChange deltaLeastWrong)

/-- 'datelinelaw.DeltaTells': WHATEVER THE INPUT: true; the input reads as it did. -/
def deltaTellsSpec : ChangeSpec := { name := "deltaTells", fn := fun _ => fun
  | [d1, d2, d3] => { results := [.lit (.bool true)], args := [d1, d2, d3] }
  | _ => none }
def deltaTellsRow : OpenClaim := { program := "ytmbebimingkfeaa", sum := "f8aafb4fd21b876c92ba2fc41b99a4e06d6a30ffbc28beea52961d79876d7fc2", func := "dateline/datelinelaw.DeltaTells", spec := "deltaTells", unfollowed := true, recurses := true, apart := false }
def DeltaTellsSaid : Prop := deltaTellsRow.holds Try.pinned (OpenSpec.ofChange deltaTellsSpec)

/-- ITS FALSE NEIGHBOUR: 'it returns false'. Refute it at one input. -/
def deltaTellsWrong : ChangeSpec := { name := "deltaTells", fn := fun _ => fun
  | [d1, d2, d3] => { results := [.lit (.bool false)], args := [d1, d2, d3] }
  | _ => none }
def DeltaTellsWrongFalsely : Prop := deltaTellsRow.holds Try.pinned (OpenSpec.ofChange deltaTellsWrong)

/-- 'datelinelaw.DeltaLeads': WHATEVER THE INPUT: true; the input reads as it did. -/
def deltaLeadsSpec : ChangeSpec := { name := "deltaLeads", fn := fun _ => fun
  | [d1, d2, d3] => { results := [.lit (.bool true)], args := [d1, d2, d3] }
  | _ => none }
def deltaLeadsRow : OpenClaim := { program := "ytmbebimingkfeaa", sum := "f8aafb4fd21b876c92ba2fc41b99a4e06d6a30ffbc28beea52961d79876d7fc2", func := "dateline/datelinelaw.DeltaLeads", spec := "deltaLeads", unfollowed := true, recurses := true, apart := false }
def DeltaLeadsSaid : Prop := deltaLeadsRow.holds Try.pinned (OpenSpec.ofChange deltaLeadsSpec)

/-- ITS FALSE NEIGHBOUR: 'it returns false'. Refute it at one input. -/
def deltaLeadsWrong : ChangeSpec := { name := "deltaLeads", fn := fun _ => fun
  | [d1, d2, d3] => { results := [.lit (.bool false)], args := [d1, d2, d3] }
  | _ => none }
def DeltaLeadsWrongFalsely : Prop := deltaLeadsRow.holds Try.pinned (OpenSpec.ofChange deltaLeadsWrong)

/-- 'datelinelaw.WireMore': WHATEVER THE INPUT: true; the input reads as it did. -/
def wireMoreSpec : ChangeSpec := { name := "wireMore", fn := fun _ => fun
  | [d] => { results := [.lit (.bool true)], args := [d] }
  | _ => none }
def wireMoreRow : OpenClaim := { program := "ytmbebimingkfeaa", sum := "f8aafb4fd21b876c92ba2fc41b99a4e06d6a30ffbc28beea52961d79876d7fc2", func := "dateline/datelinelaw.WireMore", spec := "wireMore", unfollowed := true, recurses := true, apart := false }
def WireMoreSaid : Prop := wireMoreRow.holds Try.pinned (OpenSpec.ofChange wireMoreSpec)

/-- ITS FALSE NEIGHBOUR: 'it returns false'. Refute it at one input. -/
def wireMoreWrong : ChangeSpec := { name := "wireMore", fn := fun _ => fun
  | [d] => { results := [.lit (.bool false)], args := [d] }
  | _ => none }
def WireMoreWrongFalsely : Prop := wireMoreRow.holds Try.pinned (OpenSpec.ofChange wireMoreWrong)

/-- 'datelinelaw.WireTells': WHATEVER THE INPUT: true; the input reads as it did. -/
def wireTellsSpec : ChangeSpec := { name := "wireTells", fn := fun _ => fun
  | [d1, d2] => { results := [.lit (.bool true)], args := [d1, d2] }
  | _ => none }
def wireTellsRow : OpenClaim := { program := "ytmbebimingkfeaa", sum := "f8aafb4fd21b876c92ba2fc41b99a4e06d6a30ffbc28beea52961d79876d7fc2", func := "dateline/datelinelaw.WireTells", spec := "wireTells", unfollowed := true, recurses := true, apart := false }
def WireTellsSaid : Prop := wireTellsRow.holds Try.pinned (OpenSpec.ofChange wireTellsSpec)

/-- ITS FALSE NEIGHBOUR: 'it returns false'. Refute it at one input. -/
def wireTellsWrong : ChangeSpec := { name := "wireTells", fn := fun _ => fun
  | [d1, d2] => { results := [.lit (.bool false)], args := [d1, d2] }
  | _ => none }
def WireTellsWrongFalsely : Prop := wireTellsRow.holds Try.pinned (OpenSpec.ofChange wireTellsWrong)

/-- 'datelinelaw.WireBack': WHATEVER THE INPUT: true; the input reads as it did. -/
def wireBackSpec : ChangeSpec := { name := "wireBack", fn := fun _ => fun
  | [d1, d2] => { results := [.lit (.bool true)], args := [d1, d2] }
  | _ => none }
def wireBackRow : OpenClaim := { program := "ytmbebimingkfeaa", sum := "f8aafb4fd21b876c92ba2fc41b99a4e06d6a30ffbc28beea52961d79876d7fc2", func := "dateline/datelinelaw.WireBack", spec := "wireBack", unfollowed := true, recurses := true, apart := false }
def WireBackSaid : Prop := wireBackRow.holds Try.pinned (OpenSpec.ofChange wireBackSpec)

/-- ITS FALSE NEIGHBOUR: 'it returns false'. Refute it at one input. -/
def wireBackWrong : ChangeSpec := { name := "wireBack", fn := fun _ => fun
  | [d1, d2] => { results := [.lit (.bool false)], args := [d1, d2] }
  | _ => none }
def WireBackWrongFalsely : Prop := wireBackRow.holds Try.pinned (OpenSpec.ofChange wireBackWrong)

/-- 'datelinelaw.LocalTells': WHATEVER THE INPUT: true; the input reads as it did. -/
def localTellsSpec : ChangeSpec := { name := "localTells", fn := fun _ => fun
  | [d1, d2, d3, d4] => { results := [.lit (.bool true)], args := [d1, d2, d3, d4] }
  | _ => none }
def localTellsRow : OpenClaim := { program := "ytmbebimingkfeaa", sum := "f8aafb4fd21b876c92ba2fc41b99a4e06d6a30ffbc28beea52961d79876d7fc2", func := "dateline/datelinelaw.LocalTells", spec := "localTells", unfollowed := true, recurses := true, apart := false }
def LocalTellsSaid : Prop := localTellsRow.holds Try.pinned (OpenSpec.ofChange localTellsSpec)

/-- ITS FALSE NEIGHBOUR: 'it returns false'. Refute it at one input. -/
def localTellsWrong : ChangeSpec := { name := "localTells", fn := fun _ => fun
  | [d1, d2, d3, d4] => { results := [.lit (.bool false)], args := [d1, d2, d3, d4] }
  | _ => none }
def LocalTellsWrongFalsely : Prop := localTellsRow.holds Try.pinned (OpenSpec.ofChange localTellsWrong)

/-- 'datelinelaw.LocalBack': WHATEVER THE INPUT: true; the input reads as it did. -/
def localBackSpec : ChangeSpec := { name := "localBack", fn := fun _ => fun
  | [d1, d2, d3, d4] => { results := [.lit (.bool true)], args := [d1, d2, d3, d4] }
  | _ => none }
def localBackRow : OpenClaim := { program := "ytmbebimingkfeaa", sum := "f8aafb4fd21b876c92ba2fc41b99a4e06d6a30ffbc28beea52961d79876d7fc2", func := "dateline/datelinelaw.LocalBack", spec := "localBack", unfollowed := true, recurses := true, apart := false }
def LocalBackSaid : Prop := localBackRow.holds Try.pinned (OpenSpec.ofChange localBackSpec)

/-- ITS FALSE NEIGHBOUR: 'it returns false'. Refute it at one input. -/
def localBackWrong : ChangeSpec := { name := "localBack", fn := fun _ => fun
  | [d1, d2, d3, d4] => { results := [.lit (.bool false)], args := [d1, d2, d3, d4] }
  | _ => none }
def LocalBackWrongFalsely : Prop := localBackRow.holds Try.pinned (OpenSpec.ofChange localBackWrong)

/- THE SECOND FORM. 'bulk': how many values and letters a reading holds, each counted each time it is reached (what is shared counts as often as it is met; a slice's spare places count too). A statement '..UptoSaid' is the law's where the arguments, and the package variables that the reading takes, are together of bulk at most 1048576: NARROWER than '..Said'. Prove '..Said' where nothing that the law and all that it calls make is longer than what came in: it says more and counts as full. Else prove '..UptoSaid'. A law counts once. -/
mutual
def uptoBulk {H : Type} : DataW H → Nat
  | .lit (.string bytes) => bytes.length + 1
  | .lit _ => 1
  | .nil => 1
  | .ptr d => uptoBulk d + 1
  | .slice elems spare => uptoBulkAll elems + uptoBulkAll spare + 1
  | .agg parts => uptoBulkAll parts + 1
  | .iface _ d => uptoBulk d + 1
  | .map entries => uptoBulkEntries entries + 1
  | .held _ => 1
def uptoBulkAll {H : Type} : List (DataW H) → Nat
  | [] => 0
  | d :: r => uptoBulk d + uptoBulkAll r
def uptoBulkEntries {H : Type} : List (Lit × DataW H) → Nat
  | [] => 0
  | x :: r => uptoBulkEntry x + uptoBulkEntries r
def uptoBulkEntry {H : Type} : Lit × DataW H → Nat
  | (.string bytes, d) => bytes.length + uptoBulk d + 1
  | (_, d) => uptoBulk d + 1
 end
def uptoSmall : (H : Type) → List (DataW H) → Bool := fun _ ds => decide (uptoBulkAll ds ≤ 1048576)
def OpenSpec.upto (s : _root_.Go.ChangeSpec) : _root_.Go.OpenSpec := { _root_.Go.OpenSpec.ofChange s with cond := some uptoSmall }

/-- 'datelinelaw.DeltaLeast', WHERE WHAT IT READS IS OF BULK AT MOST 1048576: true; the input reads as it did. -/
def deltaLeastUptoRow : OpenClaim := { program := "ytmbebimingkfeaa", sum := "f8aafb4fd21b876c92ba2fc41b99a4e06d6a30ffbc28beea52961d79876d7fc2", func := "dateline/datelinelaw.DeltaLeast", spec := "deltaLeast", unfollowed := true, recurses := true, apart := false, narrowed := true }
def DeltaLeastUptoSaid : Prop := deltaLeastUptoRow.holds Try.pinned (OpenSpec.upto deltaLeastSpec)

/-- 'datelinelaw.DeltaTells', WHERE WHAT IT READS IS OF BULK AT MOST 1048576: true; the input reads as it did. -/
def deltaTellsUptoRow : OpenClaim := { program := "ytmbebimingkfeaa", sum := "f8aafb4fd21b876c92ba2fc41b99a4e06d6a30ffbc28beea52961d79876d7fc2", func := "dateline/datelinelaw.DeltaTells", spec := "deltaTells", unfollowed := true, recurses := true, apart := false, narrowed := true }
def DeltaTellsUptoSaid : Prop := deltaTellsUptoRow.holds Try.pinned (OpenSpec.upto deltaTellsSpec)

/-- 'datelinelaw.DeltaLeads', WHERE WHAT IT READS IS OF BULK AT MOST 1048576: true; the input reads as it did. -/
def deltaLeadsUptoRow : OpenClaim := { program := "ytmbebimingkfeaa", sum := "f8aafb4fd21b876c92ba2fc41b99a4e06d6a30ffbc28beea52961d79876d7fc2", func := "dateline/datelinelaw.DeltaLeads", spec := "deltaLeads", unfollowed := true, recurses := true, apart := false, narrowed := true }
def DeltaLeadsUptoSaid : Prop := deltaLeadsUptoRow.holds Try.pinned (OpenSpec.upto deltaLeadsSpec)

/-- 'datelinelaw.WireMore', WHERE WHAT IT READS IS OF BULK AT MOST 1048576: true; the input reads as it did. -/
def wireMoreUptoRow : OpenClaim := { program := "ytmbebimingkfeaa", sum := "f8aafb4fd21b876c92ba2fc41b99a4e06d6a30ffbc28beea52961d79876d7fc2", func := "dateline/datelinelaw.WireMore", spec := "wireMore", unfollowed := true, recurses := true, apart := false, narrowed := true }
def WireMoreUptoSaid : Prop := wireMoreUptoRow.holds Try.pinned (OpenSpec.upto wireMoreSpec)

/-- 'datelinelaw.WireTells', WHERE WHAT IT READS IS OF BULK AT MOST 1048576: true; the input reads as it did. -/
def wireTellsUptoRow : OpenClaim := { program := "ytmbebimingkfeaa", sum := "f8aafb4fd21b876c92ba2fc41b99a4e06d6a30ffbc28beea52961d79876d7fc2", func := "dateline/datelinelaw.WireTells", spec := "wireTells", unfollowed := true, recurses := true, apart := false, narrowed := true }
def WireTellsUptoSaid : Prop := wireTellsUptoRow.holds Try.pinned (OpenSpec.upto wireTellsSpec)

/-- 'datelinelaw.WireBack', WHERE WHAT IT READS IS OF BULK AT MOST 1048576: true; the input reads as it did. -/
def wireBackUptoRow : OpenClaim := { program := "ytmbebimingkfeaa", sum := "f8aafb4fd21b876c92ba2fc41b99a4e06d6a30ffbc28beea52961d79876d7fc2", func := "dateline/datelinelaw.WireBack", spec := "wireBack", unfollowed := true, recurses := true, apart := false, narrowed := true }
def WireBackUptoSaid : Prop := wireBackUptoRow.holds Try.pinned (OpenSpec.upto wireBackSpec)

/-- 'datelinelaw.LocalTells', WHERE WHAT IT READS IS OF BULK AT MOST 1048576: true; the input reads as it did. -/
def localTellsUptoRow : OpenClaim := { program := "ytmbebimingkfeaa", sum := "f8aafb4fd21b876c92ba2fc41b99a4e06d6a30ffbc28beea52961d79876d7fc2", func := "dateline/datelinelaw.LocalTells", spec := "localTells", unfollowed := true, recurses := true, apart := false, narrowed := true }
def LocalTellsUptoSaid : Prop := localTellsUptoRow.holds Try.pinned (OpenSpec.upto localTellsSpec)

/-- 'datelinelaw.LocalBack', WHERE WHAT IT READS IS OF BULK AT MOST 1048576: true; the input reads as it did. -/
def localBackUptoRow : OpenClaim := { program := "ytmbebimingkfeaa", sum := "f8aafb4fd21b876c92ba2fc41b99a4e06d6a30ffbc28beea52961d79876d7fc2", func := "dateline/datelinelaw.LocalBack", spec := "localBack", unfollowed := true, recurses := true, apart := false, narrowed := true }
def LocalBackUptoSaid : Prop := localBackUptoRow.holds Try.pinned (OpenSpec.upto localBackSpec)

end Rows
end Go.Proofs.Ytmbebimingkfeaa
