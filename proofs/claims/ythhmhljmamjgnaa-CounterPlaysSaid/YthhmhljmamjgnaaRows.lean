/-
  No cell of these rows narrows 'for every input' (looked for: loops, veiled, ifaces, maps, wideKeys, modest, calm, conditions, laid).
  DERIVED. THE GIVEN ROWS OF THIS SEAT. 5 by the template 'for every input the law returns true; each argument reads behind the call as it read before'; 0 by the template 'total and deterministic' (their statements: YthhmhljmamjgnaaTotals.lean).
  GIVEN WITH THE SEED: the statements are not yours to turn. If you find one false, say at which input.
  Laid BY PROGRAM, IN A SANDBOX (cutbox-rows.mjs): the forced cells as the released guide's own fill.sh prints them over the translation bfddfe70cbf1eade… (all of the seat's roots in one cut). By AI agents, Wed Nov 11 2026. No macro, syntax, notation, axiom, sorry.
-/
import Derived.Test.YthhmhljmamjgnaaChecked
import GoSem.Claim
import GoSem.ClaimJoined
import GoSem.ClaimMapViews
import Derived.JoinedTies
import Derived.KernelRfl
namespace Go.Proofs.Ythhmhljmamjgnaa
/- THE CELL 'sum', in the pinned program and in every row, IS THE sha256 OF THE DUMP (.gsa) THAT YthhmhljmamjgnaaProg.lean LOADS. Nothing in Lean hashes anything: it is a label: what it is worth is what the hold of that sum in a sandbox is worth. -/
noncomputable def Try.pinned : Pinned := { name := "ythhmhljmamjgnaa", sum := "bfddfe70cbf1eadececcde7c3ed07e5b6c4ccddc3cda7a37bc1a9f397f6ac499", checked := Try.checked }
namespace Rows
def none {H : Type} : Left H := { results := [], args := [] }

/-- 'phrasebooklaw30.CounterLists': WHATEVER THE INPUT: true; the input reads as it did. -/
def counterListsSpec : ChangeSpec := { name := "counterLists", fn := fun _ => fun
  | [d1, d2, d3] => { results := [.lit (.bool true)], args := [d1, d2, d3] }
  | _ => none }
def counterListsRow : OpenClaim := { program := "ythhmhljmamjgnaa", sum := "bfddfe70cbf1eadececcde7c3ed07e5b6c4ccddc3cda7a37bc1a9f397f6ac499", func := "phrasebook/phrasebooklaw30.CounterLists", spec := "counterLists", unfollowed := true, recurses := true, apart := false }
def CounterListsSaid : Prop := counterListsRow.holds Try.pinned (OpenSpec.ofChange counterListsSpec)

/-- ITS FALSE NEIGHBOUR: 'it returns false'. Refute it at one input. -/
def counterListsWrong : ChangeSpec := { name := "counterLists", fn := fun _ => fun
  | [d1, d2, d3] => { results := [.lit (.bool false)], args := [d1, d2, d3] }
  | _ => none }
def CounterListsWrongFalsely : Prop := counterListsRow.holds Try.pinned (OpenSpec.ofChange counterListsWrong)

/-- 'phrasebooklaw30.CounterReaches': WHATEVER THE INPUT: true; the input reads as it did. -/
def counterReachesSpec : ChangeSpec := { name := "counterReaches", fn := fun _ => fun
  | [d1, d2, d3] => { results := [.lit (.bool true)], args := [d1, d2, d3] }
  | _ => none }
def counterReachesRow : OpenClaim := { program := "ythhmhljmamjgnaa", sum := "bfddfe70cbf1eadececcde7c3ed07e5b6c4ccddc3cda7a37bc1a9f397f6ac499", func := "phrasebook/phrasebooklaw30.CounterReaches", spec := "counterReaches", unfollowed := true, recurses := true, apart := false }
def CounterReachesSaid : Prop := counterReachesRow.holds Try.pinned (OpenSpec.ofChange counterReachesSpec)

/-- ITS FALSE NEIGHBOUR: 'it returns false'. Refute it at one input. -/
def counterReachesWrong : ChangeSpec := { name := "counterReaches", fn := fun _ => fun
  | [d1, d2, d3] => { results := [.lit (.bool false)], args := [d1, d2, d3] }
  | _ => none }
def CounterReachesWrongFalsely : Prop := counterReachesRow.holds Try.pinned (OpenSpec.ofChange counterReachesWrong)

/-- 'phrasebooklaw30.CounterHolds': WHATEVER THE INPUT: true; the input reads as it did. -/
def counterHoldsSpec : ChangeSpec := { name := "counterHolds", fn := fun _ => fun
  | [d1, d2, d3] => { results := [.lit (.bool true)], args := [d1, d2, d3] }
  | _ => none }
def counterHoldsRow : OpenClaim := { program := "ythhmhljmamjgnaa", sum := "bfddfe70cbf1eadececcde7c3ed07e5b6c4ccddc3cda7a37bc1a9f397f6ac499", func := "phrasebook/phrasebooklaw30.CounterHolds", spec := "counterHolds", unfollowed := true, recurses := true, apart := false }
def CounterHoldsSaid : Prop := counterHoldsRow.holds Try.pinned (OpenSpec.ofChange counterHoldsSpec)

/-- ITS FALSE NEIGHBOUR: 'it returns false'. Refute it at one input. -/
def counterHoldsWrong : ChangeSpec := { name := "counterHolds", fn := fun _ => fun
  | [d1, d2, d3] => { results := [.lit (.bool false)], args := [d1, d2, d3] }
  | _ => none }
def CounterHoldsWrongFalsely : Prop := counterHoldsRow.holds Try.pinned (OpenSpec.ofChange counterHoldsWrong)

/-- 'phrasebooklaw30.CounterPlays': WHATEVER THE INPUT: true; the input reads as it did. -/
def counterPlaysSpec : ChangeSpec := { name := "counterPlays", fn := fun _ => fun
  | [d1, d2] => { results := [.lit (.bool true)], args := [d1, d2] }
  | _ => none }
def counterPlaysRow : OpenClaim := { program := "ythhmhljmamjgnaa", sum := "bfddfe70cbf1eadececcde7c3ed07e5b6c4ccddc3cda7a37bc1a9f397f6ac499", func := "phrasebook/phrasebooklaw30.CounterPlays", spec := "counterPlays", unfollowed := true, recurses := true, apart := false }
def CounterPlaysSaid : Prop := counterPlaysRow.holds Try.pinned (OpenSpec.ofChange counterPlaysSpec)

/-- ITS FALSE NEIGHBOUR: 'it returns false'. Refute it at one input. -/
def counterPlaysWrong : ChangeSpec := { name := "counterPlays", fn := fun _ => fun
  | [d1, d2] => { results := [.lit (.bool false)], args := [d1, d2] }
  | _ => none }
def CounterPlaysWrongFalsely : Prop := counterPlaysRow.holds Try.pinned (OpenSpec.ofChange counterPlaysWrong)

/-- 'phrasebooklaw30.CounterNil': WHATEVER THE INPUT: true; the input reads as it did. -/
def counterNilSpec : ChangeSpec := { name := "counterNil", fn := fun _ => fun
  | [d1, d2, d3] => { results := [.lit (.bool true)], args := [d1, d2, d3] }
  | _ => none }
def counterNilRow : OpenClaim := { program := "ythhmhljmamjgnaa", sum := "bfddfe70cbf1eadececcde7c3ed07e5b6c4ccddc3cda7a37bc1a9f397f6ac499", func := "phrasebook/phrasebooklaw30.CounterNil", spec := "counterNil", unfollowed := true, recurses := true, apart := false }
def CounterNilSaid : Prop := counterNilRow.holds Try.pinned (OpenSpec.ofChange counterNilSpec)

/-- ITS FALSE NEIGHBOUR: 'it returns false'. Refute it at one input. -/
def counterNilWrong : ChangeSpec := { name := "counterNil", fn := fun _ => fun
  | [d1, d2, d3] => { results := [.lit (.bool false)], args := [d1, d2, d3] }
  | _ => none }
def CounterNilWrongFalsely : Prop := counterNilRow.holds Try.pinned (OpenSpec.ofChange counterNilWrong)

/- THE SECOND FORM. 'bulk': how many values and letters a reading holds, each counted each time it is reached (what is shared counts as often as it is met; a slice's spare places count too). A statement '..UptoSaid' is the law's where the arguments, and the package variables that the reading takes, are together of bulk at most 1048576: NARROWER than '..Said'. Prove '..Said' where nothing that the law and all that it calls make is longer than what came in: it says more and counts as full. Else prove '..UptoSaid'. A law counts once. -/
mutual
def uptoBulk {H : Type} : DataW H → Nat
  | .lit (.string bytes) => bytes.length + 1
  | .lit _ => 1
  | .nil => 1
  | .ptr d => uptoBulk d + 1
  | .slice elems spare => uptoBulkAll elems + uptoBulkAll spare + 1
  | .agg parts => uptoBulkAll parts + 1
  | .iface _ d => uptoBulk d + 1
  | .map entries => uptoBulkEntries entries + 1
  | .held _ => 1
def uptoBulkAll {H : Type} : List (DataW H) → Nat
  | [] => 0
  | d :: r => uptoBulk d + uptoBulkAll r
def uptoBulkEntries {H : Type} : List (Lit × DataW H) → Nat
  | [] => 0
  | x :: r => uptoBulkEntry x + uptoBulkEntries r
def uptoBulkEntry {H : Type} : Lit × DataW H → Nat
  | (.string bytes, d) => bytes.length + uptoBulk d + 1
  | (_, d) => uptoBulk d + 1
 end
def uptoSmall : (H : Type) → List (DataW H) → Bool := fun _ ds => decide (uptoBulkAll ds ≤ 1048576)
def OpenSpec.upto (s : _root_.Go.ChangeSpec) : _root_.Go.OpenSpec := { _root_.Go.OpenSpec.ofChange s with cond := some uptoSmall }

/-- 'phrasebooklaw30.CounterLists', WHERE WHAT IT READS IS OF BULK AT MOST 1048576: true; the input reads as it did. -/
def counterListsUptoRow : OpenClaim := { program := "ythhmhljmamjgnaa", sum := "bfddfe70cbf1eadececcde7c3ed07e5b6c4ccddc3cda7a37bc1a9f397f6ac499", func := "phrasebook/phrasebooklaw30.CounterLists", spec := "counterLists", unfollowed := true, recurses := true, apart := false, narrowed := true }
def CounterListsUptoSaid : Prop := counterListsUptoRow.holds Try.pinned (OpenSpec.upto counterListsSpec)

/-- 'phrasebooklaw30.CounterReaches', WHERE WHAT IT READS IS OF BULK AT MOST 1048576: true; the input reads as it did. -/
def counterReachesUptoRow : OpenClaim := { program := "ythhmhljmamjgnaa", sum := "bfddfe70cbf1eadececcde7c3ed07e5b6c4ccddc3cda7a37bc1a9f397f6ac499", func := "phrasebook/phrasebooklaw30.CounterReaches", spec := "counterReaches", unfollowed := true, recurses := true, apart := false, narrowed := true }
def CounterReachesUptoSaid : Prop := counterReachesUptoRow.holds Try.pinned (OpenSpec.upto counterReachesSpec)

/-- 'phrasebooklaw30.CounterHolds', WHERE WHAT IT READS IS OF BULK AT MOST 1048576: true; the input reads as it did. -/
def counterHoldsUptoRow : OpenClaim := { program := "ythhmhljmamjgnaa", sum := "bfddfe70cbf1eadececcde7c3ed07e5b6c4ccddc3cda7a37bc1a9f397f6ac499", func := "phrasebook/phrasebooklaw30.CounterHolds", spec := "counterHolds", unfollowed := true, recurses := true, apart := false, narrowed := true }
def CounterHoldsUptoSaid : Prop := counterHoldsUptoRow.holds Try.pinned (OpenSpec.upto counterHoldsSpec)

/-- 'phrasebooklaw30.CounterPlays', WHERE WHAT IT READS IS OF BULK AT MOST 1048576: true; the input reads as it did. -/
def counterPlaysUptoRow : OpenClaim := { program := "ythhmhljmamjgnaa", sum := "bfddfe70cbf1eadececcde7c3ed07e5b6c4ccddc3cda7a37bc1a9f397f6ac499", func := "phrasebook/phrasebooklaw30.CounterPlays", spec := "counterPlays", unfollowed := true, recurses := true, apart := false, narrowed := true }
def CounterPlaysUptoSaid : Prop := counterPlaysUptoRow.holds Try.pinned (OpenSpec.upto counterPlaysSpec)

/-- 'phrasebooklaw30.CounterNil', WHERE WHAT IT READS IS OF BULK AT MOST 1048576: true; the input reads as it did. -/
def counterNilUptoRow : OpenClaim := { program := "ythhmhljmamjgnaa", sum := "bfddfe70cbf1eadececcde7c3ed07e5b6c4ccddc3cda7a37bc1a9f397f6ac499", func := "phrasebook/phrasebooklaw30.CounterNil", spec := "counterNil", unfollowed := true, recurses := true, apart := false, narrowed := true }
def CounterNilUptoSaid : Prop := counterNilUptoRow.holds Try.pinned (OpenSpec.upto counterNilSpec)

end Rows
end Go.Proofs.Ythhmhljmamjgnaa
