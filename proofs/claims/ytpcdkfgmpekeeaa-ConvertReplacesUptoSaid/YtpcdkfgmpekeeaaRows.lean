/-
  No cell of these rows narrows 'for every input' (looked for: loops, veiled, ifaces, maps, wideKeys, modest, calm, conditions, laid).
  DERIVED. THE GIVEN ROWS OF THIS SEAT. 4 by the template 'for every input the law returns true; each argument reads behind the call as it read before'; 0 by the template 'total and deterministic' (their statements: YtpcdkfgmpekeeaaTotals.lean).
  GIVEN WITH THE SEED: the statements are not yours to turn. If you find one false, say at which input.
  Laid BY PROGRAM, IN A SANDBOX (cutbox-rows.mjs): the forced cells as the released guide's own fill.sh prints them over the translation dc3eea45a5470b88… (all of the seat's roots in one cut). By AI agents, Wed Nov 11 2026. No macro, syntax, notation, axiom, sorry.
-/
import Derived.Test.YtpcdkfgmpekeeaaChecked
import GoSem.Claim
import GoSem.ClaimJoined
import GoSem.ClaimMapViews
import Derived.JoinedTies
import Derived.KernelRfl
namespace Go.Proofs.Ytpcdkfgmpekeeaa
/- THE CELL 'sum', in the pinned program and in every row, IS THE sha256 OF THE DUMP (.gsa) THAT YtpcdkfgmpekeeaaProg.lean LOADS. Nothing in Lean hashes anything: it is a label: what it is worth is what the hold of that sum in a sandbox is worth. -/
noncomputable def Try.pinned : Pinned := { name := "ytpcdkfgmpekeeaa", sum := "dc3eea45a5470b88fe56d17b2e97c427e34e8fa6c0e84450fd384ad963a8caf3", checked := Try.checked }
namespace Rows
def none {H : Type} : Left H := { results := [], args := [] }

/-- 'phrasebooklaw48.ConvertChecks': WHATEVER THE INPUT: true; the input reads as it did. -/
def convertChecksSpec : ChangeSpec := { name := "convertChecks", fn := fun _ => fun
  | [d1, d2, d3, d4] => { results := [.lit (.bool true)], args := [d1, d2, d3, d4] }
  | _ => none }
def convertChecksRow : OpenClaim := { program := "ytpcdkfgmpekeeaa", sum := "dc3eea45a5470b88fe56d17b2e97c427e34e8fa6c0e84450fd384ad963a8caf3", func := "phrasebook/phrasebooklaw48.ConvertChecks", spec := "convertChecks", unfollowed := true, recurses := true, plainKeys := false, apart := false }
def ConvertChecksSaid : Prop := convertChecksRow.holds Try.pinned (OpenSpec.ofChange convertChecksSpec)

/-- ITS FALSE NEIGHBOUR: 'it returns false'. Refute it at one input. -/
def convertChecksWrong : ChangeSpec := { name := "convertChecks", fn := fun _ => fun
  | [d1, d2, d3, d4] => { results := [.lit (.bool false)], args := [d1, d2, d3, d4] }
  | _ => none }
def ConvertChecksWrongFalsely : Prop := convertChecksRow.holds Try.pinned (OpenSpec.ofChange convertChecksWrong)

/-- 'phrasebooklaw48.ConvertReaches': WHATEVER THE INPUT: true; the input reads as it did. -/
def convertReachesSpec : ChangeSpec := { name := "convertReaches", fn := fun _ => fun
  | [d] => { results := [.lit (.bool true)], args := [d] }
  | _ => none }
def convertReachesRow : OpenClaim := { program := "ytpcdkfgmpekeeaa", sum := "dc3eea45a5470b88fe56d17b2e97c427e34e8fa6c0e84450fd384ad963a8caf3", func := "phrasebook/phrasebooklaw48.ConvertReaches", spec := "convertReaches", unfollowed := true, recurses := true, plainKeys := false, apart := false }
def ConvertReachesSaid : Prop := convertReachesRow.holds Try.pinned (OpenSpec.ofChange convertReachesSpec)

/-- ITS FALSE NEIGHBOUR: 'it returns false'. Refute it at one input. -/
def convertReachesWrong : ChangeSpec := { name := "convertReaches", fn := fun _ => fun
  | [d] => { results := [.lit (.bool false)], args := [d] }
  | _ => none }
def ConvertReachesWrongFalsely : Prop := convertReachesRow.holds Try.pinned (OpenSpec.ofChange convertReachesWrong)

/-- 'phrasebooklaw48.ConvertReplaces': WHATEVER THE INPUT: true; the input reads as it did. -/
def convertReplacesSpec : ChangeSpec := { name := "convertReplaces", fn := fun _ => fun
  | [d1, d2, d3, d4] => { results := [.lit (.bool true)], args := [d1, d2, d3, d4] }
  | _ => none }
def convertReplacesRow : OpenClaim := { program := "ytpcdkfgmpekeeaa", sum := "dc3eea45a5470b88fe56d17b2e97c427e34e8fa6c0e84450fd384ad963a8caf3", func := "phrasebook/phrasebooklaw48.ConvertReplaces", spec := "convertReplaces", unfollowed := true, recurses := true, plainKeys := false, apart := false }
def ConvertReplacesSaid : Prop := convertReplacesRow.holds Try.pinned (OpenSpec.ofChange convertReplacesSpec)

/-- ITS FALSE NEIGHBOUR: 'it returns false'. Refute it at one input. -/
def convertReplacesWrong : ChangeSpec := { name := "convertReplaces", fn := fun _ => fun
  | [d1, d2, d3, d4] => { results := [.lit (.bool false)], args := [d1, d2, d3, d4] }
  | _ => none }
def ConvertReplacesWrongFalsely : Prop := convertReplacesRow.holds Try.pinned (OpenSpec.ofChange convertReplacesWrong)

/-- 'phrasebooklaw48.ConvertIdentities': WHATEVER THE INPUT: true; the input reads as it did. -/
def convertIdentitiesSpec : ChangeSpec := { name := "convertIdentities", fn := fun _ => fun
  | [d] => { results := [.lit (.bool true)], args := [d] }
  | _ => none }
def convertIdentitiesRow : OpenClaim := { program := "ytpcdkfgmpekeeaa", sum := "dc3eea45a5470b88fe56d17b2e97c427e34e8fa6c0e84450fd384ad963a8caf3", func := "phrasebook/phrasebooklaw48.ConvertIdentities", spec := "convertIdentities", unfollowed := true, recurses := true, plainKeys := false, apart := false }
def ConvertIdentitiesSaid : Prop := convertIdentitiesRow.holds Try.pinned (OpenSpec.ofChange convertIdentitiesSpec)

/-- ITS FALSE NEIGHBOUR: 'it returns false'. Refute it at one input. -/
def convertIdentitiesWrong : ChangeSpec := { name := "convertIdentities", fn := fun _ => fun
  | [d] => { results := [.lit (.bool false)], args := [d] }
  | _ => none }
def ConvertIdentitiesWrongFalsely : Prop := convertIdentitiesRow.holds Try.pinned (OpenSpec.ofChange convertIdentitiesWrong)

/- THE SECOND FORM. 'bulk': how many values and letters a reading holds, each counted each time it is reached (what is shared counts as often as it is met; a slice's spare places count too). A statement '..UptoSaid' is the law's where the arguments, and the package variables that the reading takes, are together of bulk at most 1048576: NARROWER than '..Said'. Prove '..Said' where nothing that the law and all that it calls make is longer than what came in: it says more and counts as full. Else prove '..UptoSaid'. A law counts once. -/
mutual
def uptoBulk {H : Type} : DataW H → Nat
  | .lit (.string bytes) => bytes.length + 1
  | .lit _ => 1
  | .nil => 1
  | .ptr d => uptoBulk d + 1
  | .slice elems spare => uptoBulkAll elems + uptoBulkAll spare + 1
  | .agg parts => uptoBulkAll parts + 1
  | .iface _ d => uptoBulk d + 1
  | .map entries => uptoBulkEntries entries + 1
  | .held _ => 1
def uptoBulkAll {H : Type} : List (DataW H) → Nat
  | [] => 0
  | d :: r => uptoBulk d + uptoBulkAll r
def uptoBulkEntries {H : Type} : List (Lit × DataW H) → Nat
  | [] => 0
  | x :: r => uptoBulkEntry x + uptoBulkEntries r
def uptoBulkEntry {H : Type} : Lit × DataW H → Nat
  | (.string bytes, d) => bytes.length + uptoBulk d + 1
  | (_, d) => uptoBulk d + 1
 end
def uptoSmall : (H : Type) → List (DataW H) → Bool := fun _ ds => decide (uptoBulkAll ds ≤ 1048576)
def OpenSpec.upto (s : _root_.Go.ChangeSpec) : _root_.Go.OpenSpec := { _root_.Go.OpenSpec.ofChange s with cond := some uptoSmall }

/-- 'phrasebooklaw48.ConvertChecks', WHERE WHAT IT READS IS OF BULK AT MOST 1048576: true; the input reads as it did. -/
def convertChecksUptoRow : OpenClaim := { program := "ytpcdkfgmpekeeaa", sum := "dc3eea45a5470b88fe56d17b2e97c427e34e8fa6c0e84450fd384ad963a8caf3", func := "phrasebook/phrasebooklaw48.ConvertChecks", spec := "convertChecks", unfollowed := true, recurses := true, plainKeys := false, apart := false, narrowed := true }
def ConvertChecksUptoSaid : Prop := convertChecksUptoRow.holds Try.pinned (OpenSpec.upto convertChecksSpec)

/-- 'phrasebooklaw48.ConvertReaches', WHERE WHAT IT READS IS OF BULK AT MOST 1048576: true; the input reads as it did. -/
def convertReachesUptoRow : OpenClaim := { program := "ytpcdkfgmpekeeaa", sum := "dc3eea45a5470b88fe56d17b2e97c427e34e8fa6c0e84450fd384ad963a8caf3", func := "phrasebook/phrasebooklaw48.ConvertReaches", spec := "convertReaches", unfollowed := true, recurses := true, plainKeys := false, apart := false, narrowed := true }
def ConvertReachesUptoSaid : Prop := convertReachesUptoRow.holds Try.pinned (OpenSpec.upto convertReachesSpec)

/-- 'phrasebooklaw48.ConvertReplaces', WHERE WHAT IT READS IS OF BULK AT MOST 1048576: true; the input reads as it did. -/
def convertReplacesUptoRow : OpenClaim := { program := "ytpcdkfgmpekeeaa", sum := "dc3eea45a5470b88fe56d17b2e97c427e34e8fa6c0e84450fd384ad963a8caf3", func := "phrasebook/phrasebooklaw48.ConvertReplaces", spec := "convertReplaces", unfollowed := true, recurses := true, plainKeys := false, apart := false, narrowed := true }
def ConvertReplacesUptoSaid : Prop := convertReplacesUptoRow.holds Try.pinned (OpenSpec.upto convertReplacesSpec)

/-- 'phrasebooklaw48.ConvertIdentities', WHERE WHAT IT READS IS OF BULK AT MOST 1048576: true; the input reads as it did. -/
def convertIdentitiesUptoRow : OpenClaim := { program := "ytpcdkfgmpekeeaa", sum := "dc3eea45a5470b88fe56d17b2e97c427e34e8fa6c0e84450fd384ad963a8caf3", func := "phrasebook/phrasebooklaw48.ConvertIdentities", spec := "convertIdentities", unfollowed := true, recurses := true, plainKeys := false, apart := false, narrowed := true }
def ConvertIdentitiesUptoSaid : Prop := convertIdentitiesUptoRow.holds Try.pinned (OpenSpec.upto convertIdentitiesSpec)

end Rows
end Go.Proofs.Ytpcdkfgmpekeeaa
