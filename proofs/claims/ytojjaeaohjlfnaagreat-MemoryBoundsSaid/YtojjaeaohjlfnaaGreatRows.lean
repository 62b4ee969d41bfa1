/-
  No cell of these rows narrows 'for every input' (looked for: loops, veiled, ifaces, maps, wideKeys, modest, calm, conditions, laid).
  DERIVED. THE GIVEN ROWS OF THIS SEAT. 4 by the template 'for every input the law returns true; each argument reads behind the call as it read before'; 0 by the template 'total and deterministic' (their statements: YtojjaeaohjlfnaaGreatTotals.lean).
  GIVEN WITH THE SEED: the statements are not yours to turn. If you find one false, say at which input.
  Laid BY PROGRAM, IN A SANDBOX (cutbox-rows.mjs): the forced cells as the released guide's own fill.sh prints them over the translation 6ed099a0a72280f7… (all of the seat's roots in one cut). By AI agents, Wed Nov 11 2026. No macro, syntax, notation, axiom, sorry.
-/
import Derived.Test.YtojjaeaohjlfnaaGreatChecked
import GoSem.Claim
import GoSem.ClaimJoined
import GoSem.ClaimMapViews
import Derived.JoinedTies
import Derived.KernelRfl
namespace Go.Proofs.YtojjaeaohjlfnaaGreat
/- THE CELL 'sum', in the pinned program and in every row, IS THE sha256 OF THE DUMP (.gsa) THAT YtojjaeaohjlfnaaGreatProg.lean LOADS. Nothing in Lean hashes anything: it is a label: what it is worth is what the hold of that sum in a sandbox is worth. -/
noncomputable def Tryz.pinned : Pinned := { name := "ytojjaeaohjlfnaagreat", sum := "6ed099a0a72280f71c7dc75878535b6a543afece62ba24d3d5507af43ea58d94", checked := Tryz.checked }
namespace Rows
def none {H : Type} : Left H := { results := [], args := [] }

/-- 'phrasebooklaw20.MemoryBounds': WHATEVER THE INPUT: true; the input reads as it did. -/
def memoryBoundsSpec : ChangeSpec := { name := "memoryBounds", fn := fun _ => fun
  | [d1, d2] => { results := [.lit (.bool true)], args := [d1, d2] }
  | _ => none }
def memoryBoundsRow : OpenClaim := { program := "ytojjaeaohjlfnaagreat", sum := "6ed099a0a72280f71c7dc75878535b6a543afece62ba24d3d5507af43ea58d94", func := "phrasebook/phrasebooklaw20.MemoryBounds", spec := "memoryBounds", unfollowed := true, recurses := true, apart := false }
def MemoryBoundsSaid : Prop := memoryBoundsRow.holds Tryz.pinned (OpenSpec.ofChange memoryBoundsSpec)

/-- ITS FALSE NEIGHBOUR: 'it returns false'. Refute it at one input. -/
def memoryBoundsWrong : ChangeSpec := { name := "memoryBounds", fn := fun _ => fun
  | [d1, d2] => { results := [.lit (.bool false)], args := [d1, d2] }
  | _ => none }
def MemoryBoundsWrongFalsely : Prop := memoryBoundsRow.holds Tryz.pinned (OpenSpec.ofChange memoryBoundsWrong)

/-- 'phrasebooklaw20.MemoryFields': WHATEVER THE INPUT: true; the input reads as it did. -/
def memoryFieldsSpec : ChangeSpec := { name := "memoryFields", fn := fun _ => fun
  | [d1, d2, d3] => { results := [.lit (.bool true)], args := [d1, d2, d3] }
  | _ => none }
def memoryFieldsRow : OpenClaim := { program := "ytojjaeaohjlfnaagreat", sum := "6ed099a0a72280f71c7dc75878535b6a543afece62ba24d3d5507af43ea58d94", func := "phrasebook/phrasebooklaw20.MemoryFields", spec := "memoryFields", unfollowed := true, recurses := true, apart := false }
def MemoryFieldsSaid : Prop := memoryFieldsRow.holds Tryz.pinned (OpenSpec.ofChange memoryFieldsSpec)

/-- ITS FALSE NEIGHBOUR: 'it returns false'. Refute it at one input. -/
def memoryFieldsWrong : ChangeSpec := { name := "memoryFields", fn := fun _ => fun
  | [d1, d2, d3] => { results := [.lit (.bool false)], args := [d1, d2, d3] }
  | _ => none }
def MemoryFieldsWrongFalsely : Prop := memoryFieldsRow.holds Tryz.pinned (OpenSpec.ofChange memoryFieldsWrong)

/-- 'phrasebooklaw20.MemoryChains': WHATEVER THE INPUT: true; the input reads as it did. -/
def memoryChainsSpec : ChangeSpec := { name := "memoryChains", fn := fun _ => fun
  | [d] => { results := [.lit (.bool true)], args := [d] }
  | _ => none }
def memoryChainsRow : OpenClaim := { program := "ytojjaeaohjlfnaagreat", sum := "6ed099a0a72280f71c7dc75878535b6a543afece62ba24d3d5507af43ea58d94", func := "phrasebook/phrasebooklaw20.MemoryChains", spec := "memoryChains", unfollowed := true, recurses := true, apart := false }
def MemoryChainsSaid : Prop := memoryChainsRow.holds Tryz.pinned (OpenSpec.ofChange memoryChainsSpec)

/-- ITS FALSE NEIGHBOUR: 'it returns false'. Refute it at one input. -/
def memoryChainsWrong : ChangeSpec := { name := "memoryChains", fn := fun _ => fun
  | [d] => { results := [.lit (.bool false)], args := [d] }
  | _ => none }
def MemoryChainsWrongFalsely : Prop := memoryChainsRow.holds Tryz.pinned (OpenSpec.ofChange memoryChainsWrong)

/-- 'phrasebooklaw20.MemoryExtends': WHATEVER THE INPUT: true; the input reads as it did. -/
def memoryExtendsSpec : ChangeSpec := { name := "memoryExtends", fn := fun _ => fun
  | [d1, d2] => { results := [.lit (.bool true)], args := [d1, d2] }
  | _ => none }
def memoryExtendsRow : OpenClaim := { program := "ytojjaeaohjlfnaagreat", sum := "6ed099a0a72280f71c7dc75878535b6a543afece62ba24d3d5507af43ea58d94", func := "phrasebook/phrasebooklaw20.MemoryExtends", spec := "memoryExtends", unfollowed := true, recurses := true, apart := false }
def MemoryExtendsSaid : Prop := memoryExtendsRow.holds Tryz.pinned (OpenSpec.ofChange memoryExtendsSpec)

/-- ITS FALSE NEIGHBOUR: 'it returns false'. Refute it at one input. -/
def memoryExtendsWrong : ChangeSpec := { name := "memoryExtends", fn := fun _ => fun
  | [d1, d2] => { results := [.lit (.bool false)], args := [d1, d2] }
  | _ => none }
def MemoryExtendsWrongFalsely : Prop := memoryExtendsRow.holds Tryz.pinned (OpenSpec.ofChange memoryExtendsWrong)

/- THE SECOND FORM. 'bulk': how many values and letters a reading holds, each counted each time it is reached (what is shared counts as often as it is met; a slice's spare places count too). A statement '..UptoSaid' is the law's where the arguments, and the package variables that the reading takes, are together of bulk at most 1048576: NARROWER than '..Said'. Prove '..Said' where nothing that the law and all that it calls make is longer than what came in: it says more and counts as full. Else prove '..UptoSaid'. A law counts once. -/
mutual
def uptoBulk {H : Type} : DataW H → Nat
  | .lit (.string bytes) => bytes.length + 1
  | .lit _ => 1
  | .nil => 1
  | .ptr d => uptoBulk d + 1
  | .slice elems spare => uptoBulkAll elems + uptoBulkAll spare + 1
  | .agg parts => uptoBulkAll parts + 1
  | .iface _ d => uptoBulk d + 1
  | .map entries => uptoBulkEntries entries + 1
  | .held _ => 1
def uptoBulkAll {H : Type} : List (DataW H) → Nat
  | [] => 0
  | d :: r => uptoBulk d + uptoBulkAll r
def uptoBulkEntries {H : Type} : List (Lit × DataW H) → Nat
  | [] => 0
  | x :: r => uptoBulkEntry x + uptoBulkEntries r
def uptoBulkEntry {H : Type} : Lit × DataW H → Nat
  | (.string bytes, d) => bytes.length + uptoBulk d + 1
  | (_, d) => uptoBulk d + 1
 end
def uptoSmall : (H : Type) → List (DataW H) → Bool := fun _ ds => decide (uptoBulkAll ds ≤ 1048576)
def OpenSpec.upto (s : _root_.Go.ChangeSpec) : _root_.Go.OpenSpec := { _root_.Go.OpenSpec.ofChange s with cond := some uptoSmall }

/-- 'phrasebooklaw20.MemoryBounds', WHERE WHAT IT READS IS OF BULK AT MOST 1048576: true; the input reads as it did. -/
def memoryBoundsUptoRow : OpenClaim := { program := "ytojjaeaohjlfnaagreat", sum := "6ed099a0a72280f71c7dc75878535b6a543afece62ba24d3d5507af43ea58d94", func := "phrasebook/phrasebooklaw20.MemoryBounds", spec := "memoryBounds", unfollowed := true, recurses := true, apart := false, narrowed := true }
def MemoryBoundsUptoSaid : Prop := memoryBoundsUptoRow.holds Tryz.pinned (OpenSpec.upto memoryBoundsSpec)

/-- 'phrasebooklaw20.MemoryFields', WHERE WHAT IT READS IS OF BULK AT MOST 1048576: true; the input reads as it did. -/
def memoryFieldsUptoRow : OpenClaim := { program := "ytojjaeaohjlfnaagreat", sum := "6ed099a0a72280f71c7dc75878535b6a543afece62ba24d3d5507af43ea58d94", func := "phrasebook/phrasebooklaw20.MemoryFields", spec := "memoryFields", unfollowed := true, recurses := true, apart := false, narrowed := true }
def MemoryFieldsUptoSaid : Prop := memoryFieldsUptoRow.holds Tryz.pinned (OpenSpec.upto memoryFieldsSpec)

/-- 'phrasebooklaw20.MemoryChains', WHERE WHAT IT READS IS OF BULK AT MOST 1048576: true; the input reads as it did. -/
def memoryChainsUptoRow : OpenClaim := { program := "ytojjaeaohjlfnaagreat", sum := "6ed099a0a72280f71c7dc75878535b6a543afece62ba24d3d5507af43ea58d94", func := "phrasebook/phrasebooklaw20.MemoryChains", spec := "memoryChains", unfollowed := true, recurses := true, apart := false, narrowed := true }
def MemoryChainsUptoSaid : Prop := memoryChainsUptoRow.holds Tryz.pinned (OpenSpec.upto memoryChainsSpec)

/-- 'phrasebooklaw20.MemoryExtends', WHERE WHAT IT READS IS OF BULK AT MOST 1048576: true; the input reads as it did. -/
def memoryExtendsUptoRow : OpenClaim := { program := "ytojjaeaohjlfnaagreat", sum := "6ed099a0a72280f71c7dc75878535b6a543afece62ba24d3d5507af43ea58d94", func := "phrasebook/phrasebooklaw20.MemoryExtends", spec := "memoryExtends", unfollowed := true, recurses := true, apart := false, narrowed := true }
def MemoryExtendsUptoSaid : Prop := memoryExtendsUptoRow.holds Tryz.pinned (OpenSpec.upto memoryExtendsSpec)

end Rows
end Go.Proofs.YtojjaeaohjlfnaaGreat
