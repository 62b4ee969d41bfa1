/-
  No cell of these rows narrows 'for every input' (looked for: loops, veiled, ifaces, maps, wideKeys, modest, calm, conditions, laid).
  DERIVED. THE GIVEN ROWS OF THIS SEAT. 4 by the template 'for every input the law returns true; each argument reads behind the call as it read before'; 0 by the template 'total and deterministic' (their statements: YthkffgljlhjggaaGreatTotals.lean).
  GIVEN WITH THE SEED: the statements are not yours to turn. If you find one false, say at which input.
  Laid BY PROGRAM, IN A SANDBOX (cutbox-rows.mjs): the forced cells as the released guide's own fill.sh prints them over the translation 823e3e31d9c35eb9… (all of the seat's roots in one cut). By AI agents, Wed Nov 11 2026. No macro, syntax, notation, axiom, sorry.
-/
import Derived.Test.YthkffgljlhjggaaGreatChecked
import GoSem.Claim
import GoSem.ClaimJoined
import GoSem.ClaimMapViews
import Derived.JoinedTies
import Derived.KernelRfl
namespace Go.Proofs.YthkffgljlhjggaaGreat
/- THE CELL 'sum', in the pinned program and in every row, IS THE sha256 OF THE DUMP (.gsa) THAT YthkffgljlhjggaaGreatProg.lean LOADS. Nothing in Lean hashes anything: it is a label: what it is worth is what the hold of that sum in a sandbox is worth. -/
noncomputable def Tryz.pinned : Pinned := { name := "ythkffgljlhjggaagreat", sum := "823e3e31d9c35eb9e0f04b4b8027be2736828025ecd184edbc213d9ba8396469", checked := Tryz.checked }
namespace Rows
def none {H : Type} : Left H := { results := [], args := [] }

/-- 'phrasebooklaw31.MachineLoops': WHATEVER THE INPUT: true; the input reads as it did. -/
def machineLoopsSpec : ChangeSpec := { name := "machineLoops", fn := fun _ => fun
  | [d1, d2, d3] => { results := [.lit (.bool true)], args := [d1, d2, d3] }
  | _ => none }
def machineLoopsRow : OpenClaim := { program := "ythkffgljlhjggaagreat", sum := "823e3e31d9c35eb9e0f04b4b8027be2736828025ecd184edbc213d9ba8396469", func := "phrasebook/phrasebooklaw31.MachineLoops", spec := "machineLoops", inPlace := ["maps.clone"], unfollowed := true, recurses := true, apart := false }
def MachineLoopsSaid : Prop := machineLoopsRow.holds Tryz.pinned (OpenSpec.ofChange machineLoopsSpec)

/-- ITS FALSE NEIGHBOUR: 'it returns false'. Refute it at one input. -/
def machineLoopsWrong : ChangeSpec := { name := "machineLoops", fn := fun _ => fun
  | [d1, d2, d3] => { results := [.lit (.bool false)], args := [d1, d2, d3] }
  | _ => none }
def MachineLoopsWrongFalsely : Prop := machineLoopsRow.holds Tryz.pinned (OpenSpec.ofChange machineLoopsWrong)

/-- 'phrasebooklaw31.MachinePlays': WHATEVER THE INPUT: true; the input reads as it did. -/
def machinePlaysSpec : ChangeSpec := { name := "machinePlays", fn := fun _ => fun
  | [d1, d2] => { results := [.lit (.bool true)], args := [d1, d2] }
  | _ => none }
def machinePlaysRow : OpenClaim := { program := "ythkffgljlhjggaagreat", sum := "823e3e31d9c35eb9e0f04b4b8027be2736828025ecd184edbc213d9ba8396469", func := "phrasebook/phrasebooklaw31.MachinePlays", spec := "machinePlays", inPlace := ["maps.clone"], unfollowed := true, recurses := true, apart := false }
def MachinePlaysSaid : Prop := machinePlaysRow.holds Tryz.pinned (OpenSpec.ofChange machinePlaysSpec)

/-- ITS FALSE NEIGHBOUR: 'it returns false'. Refute it at one input. -/
def machinePlaysWrong : ChangeSpec := { name := "machinePlays", fn := fun _ => fun
  | [d1, d2] => { results := [.lit (.bool false)], args := [d1, d2] }
  | _ => none }
def MachinePlaysWrongFalsely : Prop := machinePlaysRow.holds Tryz.pinned (OpenSpec.ofChange machinePlaysWrong)

/-- 'phrasebooklaw31.MachineOwns': WHATEVER THE INPUT: true; the input reads as it did. -/
def machineOwnsSpec : ChangeSpec := { name := "machineOwns", fn := fun _ => fun
  | [d1, d2] => { results := [.lit (.bool true)], args := [d1, d2] }
  | _ => none }
def machineOwnsRow : OpenClaim := { program := "ythkffgljlhjggaagreat", sum := "823e3e31d9c35eb9e0f04b4b8027be2736828025ecd184edbc213d9ba8396469", func := "phrasebook/phrasebooklaw31.MachineOwns", spec := "machineOwns", inPlace := ["maps.clone"], unfollowed := true, recurses := true, apart := false }
def MachineOwnsSaid : Prop := machineOwnsRow.holds Tryz.pinned (OpenSpec.ofChange machineOwnsSpec)

/-- ITS FALSE NEIGHBOUR: 'it returns false'. Refute it at one input. -/
def machineOwnsWrong : ChangeSpec := { name := "machineOwns", fn := fun _ => fun
  | [d1, d2] => { results := [.lit (.bool false)], args := [d1, d2] }
  | _ => none }
def MachineOwnsWrongFalsely : Prop := machineOwnsRow.holds Tryz.pinned (OpenSpec.ofChange machineOwnsWrong)

/-- 'phrasebooklaw31.MachineBegins': WHATEVER THE INPUT: true; the input reads as it did. -/
def machineBeginsSpec : ChangeSpec := { name := "machineBegins", fn := fun _ => fun
  | [d1, d2, d3, d4] => { results := [.lit (.bool true)], args := [d1, d2, d3, d4] }
  | _ => none }
def machineBeginsRow : OpenClaim := { program := "ythkffgljlhjggaagreat", sum := "823e3e31d9c35eb9e0f04b4b8027be2736828025ecd184edbc213d9ba8396469", func := "phrasebook/phrasebooklaw31.MachineBegins", spec := "machineBegins", inPlace := ["maps.clone"], unfollowed := true, recurses := true, apart := false }
def MachineBeginsSaid : Prop := machineBeginsRow.holds Tryz.pinned (OpenSpec.ofChange machineBeginsSpec)

/-- ITS FALSE NEIGHBOUR: 'it returns false'. Refute it at one input. -/
def machineBeginsWrong : ChangeSpec := { name := "machineBegins", fn := fun _ => fun
  | [d1, d2, d3, d4] => { results := [.lit (.bool false)], args := [d1, d2, d3, d4] }
  | _ => none }
def MachineBeginsWrongFalsely : Prop := machineBeginsRow.holds Tryz.pinned (OpenSpec.ofChange machineBeginsWrong)

/- THE SECOND FORM. 'bulk': how many values and letters a reading holds, each counted each time it is reached (what is shared counts as often as it is met; a slice's spare places count too). A statement '..UptoSaid' is the law's where the arguments, and the package variables that the reading takes, are together of bulk at most 1048576: NARROWER than '..Said'. Prove '..Said' where nothing that the law and all that it calls make is longer than what came in: it says more and counts as full. Else prove '..UptoSaid'. A law counts once. -/
mutual
def uptoBulk {H : Type} : DataW H → Nat
  | .lit (.string bytes) => bytes.length + 1
  | .lit _ => 1
  | .nil => 1
  | .ptr d => uptoBulk d + 1
  | .slice elems spare => uptoBulkAll elems + uptoBulkAll spare + 1
  | .agg parts => uptoBulkAll parts + 1
  | .iface _ d => uptoBulk d + 1
  | .map entries => uptoBulkEntries entries + 1
  | .held _ => 1
def uptoBulkAll {H : Type} : List (DataW H) → Nat
  | [] => 0
  | d :: r => uptoBulk d + uptoBulkAll r
def uptoBulkEntries {H : Type} : List (Lit × DataW H) → Nat
  | [] => 0
  | x :: r => uptoBulkEntry x + uptoBulkEntries r
def uptoBulkEntry {H : Type} : Lit × DataW H → Nat
  | (.string bytes, d) => bytes.length + uptoBulk d + 1
  | (_, d) => uptoBulk d + 1
 end
def uptoSmall : (H : Type) → List (DataW H) → Bool := fun _ ds => decide (uptoBulkAll ds ≤ 1048576)
def OpenSpec.upto (s : _root_.Go.ChangeSpec) : _root_.Go.OpenSpec := { _root_.Go.OpenSpec.ofChange s with cond := some uptoSmall }

/-- 'phrasebooklaw31.MachineLoops', WHERE WHAT IT READS IS OF BULK AT MOST 1048576: true; the input reads as it did. -/
def machineLoopsUptoRow : OpenClaim := { program := "ythkffgljlhjggaagreat", sum := "823e3e31d9c35eb9e0f04b4b8027be2736828025ecd184edbc213d9ba8396469", func := "phrasebook/phrasebooklaw31.MachineLoops", spec := "machineLoops", inPlace := ["maps.clone"], unfollowed := true, recurses := true, apart := false, narrowed := true }
def MachineLoopsUptoSaid : Prop := machineLoopsUptoRow.holds Tryz.pinned (OpenSpec.upto machineLoopsSpec)

/-- 'phrasebooklaw31.MachinePlays', WHERE WHAT IT READS IS OF BULK AT MOST 1048576: true; the input reads as it did. -/
def machinePlaysUptoRow : OpenClaim := { program := "ythkffgljlhjggaagreat", sum := "823e3e31d9c35eb9e0f04b4b8027be2736828025ecd184edbc213d9ba8396469", func := "phrasebook/phrasebooklaw31.MachinePlays", spec := "machinePlays", inPlace := ["maps.clone"], unfollowed := true, recurses := true, apart := false, narrowed := true }
def MachinePlaysUptoSaid : Prop := machinePlaysUptoRow.holds Tryz.pinned (OpenSpec.upto machinePlaysSpec)

/-- 'phrasebooklaw31.MachineOwns', WHERE WHAT IT READS IS OF BULK AT MOST 1048576: true; the input reads as it did. -/
def machineOwnsUptoRow : OpenClaim := { program := "ythkffgljlhjggaagreat", sum := "823e3e31d9c35eb9e0f04b4b8027be2736828025ecd184edbc213d9ba8396469", func := "phrasebook/phrasebooklaw31.MachineOwns", spec := "machineOwns", inPlace := ["maps.clone"], unfollowed := true, recurses := true, apart := false, narrowed := true }
def MachineOwnsUptoSaid : Prop := machineOwnsUptoRow.holds Tryz.pinned (OpenSpec.upto machineOwnsSpec)

/-- 'phrasebooklaw31.MachineBegins', WHERE WHAT IT READS IS OF BULK AT MOST 1048576: true; the input reads as it did. -/
def machineBeginsUptoRow : OpenClaim := { program := "ythkffgljlhjggaagreat", sum := "823e3e31d9c35eb9e0f04b4b8027be2736828025ecd184edbc213d9ba8396469", func := "phrasebook/phrasebooklaw31.MachineBegins", spec := "machineBegins", inPlace := ["maps.clone"], unfollowed := true, recurses := true, apart := false, narrowed := true }
def MachineBeginsUptoSaid : Prop := machineBeginsUptoRow.holds Tryz.pinned (OpenSpec.upto machineBeginsSpec)

end Rows
end Go.Proofs.YthkffgljlhjggaaGreat
