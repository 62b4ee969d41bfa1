/-
  No cell of these rows narrows 'for every input' (looked for: loops, veiled, ifaces, maps, wideKeys, modest, calm, conditions, laid).
  DERIVED. THE GIVEN ROWS OF THIS SEAT. 5 by the template 'for every input the law returns true; each argument reads behind the call as it read before'; 0 by the template 'total and deterministic' (their statements: YtmgppdghdeokbaaGreatTotals.lean).
  GIVEN WITH THE SEED: the statements are not yours to turn. If you find one false, say at which input.
  Laid BY PROGRAM, IN A SANDBOX (cutbox-rows.mjs): the forced cells as the released guide's own fill.sh prints them over the translation c78d3aae9fc2743d… (all of the seat's roots in one cut). By AI agents, Wed Nov 11 2026. No macro, syntax, notation, axiom, sorry.
-/
import Derived.Test.YtmgppdghdeokbaaGreatChecked
import GoSem.Claim
import GoSem.ClaimJoined
import GoSem.ClaimMapViews
import Derived.JoinedTies
import Derived.KernelRfl
namespace Go.Proofs.YtmgppdghdeokbaaGreat
/- THE CELL 'sum', in the pinned program and in every row, IS THE sha256 OF THE DUMP (.gsa) THAT YtmgppdghdeokbaaGreatProg.lean LOADS. Nothing in Lean hashes anything: it is a label: what it is worth is what the hold of that sum in a sandbox is worth. -/
noncomputable def Tryz.pinned : Pinned := { name := "ytmgppdghdeokbaagreat", sum := "c78d3aae9fc2743d0c84449b3e3890eef60d9a0b66ad96787500aa35a6eba485", checked := Tryz.checked }
namespace Rows
def none {H : Type} : Left H := { results := [], args := [] }

/-- 'phrasebooklaw49.UpgradeSoon': WHATEVER THE INPUT: true; the input reads as it did. -/
def upgradeSoonSpec : ChangeSpec := { name := "upgradeSoon", fn := fun _ => fun
  | [d1, d2, d3] => { results := [.lit (.bool true)], args := [d1, d2, d3] }
  | _ => none }
def upgradeSoonRow : OpenClaim := { program := "ytmgppdghdeokbaagreat", sum := "c78d3aae9fc2743d0c84449b3e3890eef60d9a0b66ad96787500aa35a6eba485", func := "phrasebook/phrasebooklaw49.UpgradeSoon", spec := "upgradeSoon", inPlace := ["maps.clone"], unfollowed := true, recurses := true, plainKeys := false, apart := false }
def UpgradeSoonSaid : Prop := upgradeSoonRow.holds Tryz.pinned (OpenSpec.ofChange upgradeSoonSpec)

/-- ITS FALSE NEIGHBOUR: 'it returns false'. Refute it at one input. -/
def upgradeSoonWrong : ChangeSpec := { name := "upgradeSoon", fn := fun _ => fun
  | [d1, d2, d3] => { results := [.lit (.bool false)], args := [d1, d2, d3] }
  | _ => none }
def UpgradeSoonWrongFalsely : Prop := upgradeSoonRow.holds Tryz.pinned (OpenSpec.ofChange upgradeSoonWrong)

/-- 'phrasebooklaw49.UpgradeGoesOn': WHATEVER THE INPUT: true; the input reads as it did. -/
def upgradeGoesOnSpec : ChangeSpec := { name := "upgradeGoesOn", fn := fun _ => fun
  | [d1, d2, d3, d4] => { results := [.lit (.bool true)], args := [d1, d2, d3, d4] }
  | _ => none }
def upgradeGoesOnRow : OpenClaim := { program := "ytmgppdghdeokbaagreat", sum := "c78d3aae9fc2743d0c84449b3e3890eef60d9a0b66ad96787500aa35a6eba485", func := "phrasebook/phrasebooklaw49.UpgradeGoesOn", spec := "upgradeGoesOn", inPlace := ["maps.clone"], unfollowed := true, recurses := true, plainKeys := false, apart := false }
def UpgradeGoesOnSaid : Prop := upgradeGoesOnRow.holds Tryz.pinned (OpenSpec.ofChange upgradeGoesOnSpec)

/-- ITS FALSE NEIGHBOUR: 'it returns false'. Refute it at one input. -/
def upgradeGoesOnWrong : ChangeSpec := { name := "upgradeGoesOn", fn := fun _ => fun
  | [d1, d2, d3, d4] => { results := [.lit (.bool false)], args := [d1, d2, d3, d4] }
  | _ => none }
def UpgradeGoesOnWrongFalsely : Prop := upgradeGoesOnRow.holds Tryz.pinned (OpenSpec.ofChange upgradeGoesOnWrong)

/-- 'phrasebooklaw49.UpgradeComposes': WHATEVER THE INPUT: true; the input reads as it did. -/
def upgradeComposesSpec : ChangeSpec := { name := "upgradeComposes", fn := fun _ => fun
  | [d1, d2, d3, d4, d5] => { results := [.lit (.bool true)], args := [d1, d2, d3, d4, d5] }
  | _ => none }
def upgradeComposesRow : OpenClaim := { program := "ytmgppdghdeokbaagreat", sum := "c78d3aae9fc2743d0c84449b3e3890eef60d9a0b66ad96787500aa35a6eba485", func := "phrasebook/phrasebooklaw49.UpgradeComposes", spec := "upgradeComposes", inPlace := ["maps.clone"], unfollowed := true, recurses := true, plainKeys := false, apart := false }
def UpgradeComposesSaid : Prop := upgradeComposesRow.holds Tryz.pinned (OpenSpec.ofChange upgradeComposesSpec)

/-- ITS FALSE NEIGHBOUR: 'it returns false'. Refute it at one input. -/
def upgradeComposesWrong : ChangeSpec := { name := "upgradeComposes", fn := fun _ => fun
  | [d1, d2, d3, d4, d5] => { results := [.lit (.bool false)], args := [d1, d2, d3, d4, d5] }
  | _ => none }
def UpgradeComposesWrongFalsely : Prop := upgradeComposesRow.holds Tryz.pinned (OpenSpec.ofChange upgradeComposesWrong)

/-- 'phrasebooklaw49.UpgradeChains': WHATEVER THE INPUT: true; the input reads as it did. -/
def upgradeChainsSpec : ChangeSpec := { name := "upgradeChains", fn := fun _ => fun
  | [d1, d2, d3, d4, d5, d6] => { results := [.lit (.bool true)], args := [d1, d2, d3, d4, d5, d6] }
  | _ => none }
def upgradeChainsRow : OpenClaim := { program := "ytmgppdghdeokbaagreat", sum := "c78d3aae9fc2743d0c84449b3e3890eef60d9a0b66ad96787500aa35a6eba485", func := "phrasebook/phrasebooklaw49.UpgradeChains", spec := "upgradeChains", inPlace := ["maps.clone"], unfollowed := true, recurses := true, plainKeys := false, apart := false }
def UpgradeChainsSaid : Prop := upgradeChainsRow.holds Tryz.pinned (OpenSpec.ofChange upgradeChainsSpec)

/-- ITS FALSE NEIGHBOUR: 'it returns false'. Refute it at one input. -/
def upgradeChainsWrong : ChangeSpec := { name := "upgradeChains", fn := fun _ => fun
  | [d1, d2, d3, d4, d5, d6] => { results := [.lit (.bool false)], args := [d1, d2, d3, d4, d5, d6] }
  | _ => none }
def UpgradeChainsWrongFalsely : Prop := upgradeChainsRow.holds Tryz.pinned (OpenSpec.ofChange upgradeChainsWrong)

/-- 'phrasebooklaw49.UpgradePlays': WHATEVER THE INPUT: true; the input reads as it did. -/
def upgradePlaysSpec : ChangeSpec := { name := "upgradePlays", fn := fun _ => fun
  | [d1, d2, d3] => { results := [.lit (.bool true)], args := [d1, d2, d3] }
  | _ => none }
def upgradePlaysRow : OpenClaim := { program := "ytmgppdghdeokbaagreat", sum := "c78d3aae9fc2743d0c84449b3e3890eef60d9a0b66ad96787500aa35a6eba485", func := "phrasebook/phrasebooklaw49.UpgradePlays", spec := "upgradePlays", inPlace := ["maps.clone"], unfollowed := true, recurses := true, plainKeys := false, apart := false }
def UpgradePlaysSaid : Prop := upgradePlaysRow.holds Tryz.pinned (OpenSpec.ofChange upgradePlaysSpec)

/-- ITS FALSE NEIGHBOUR: 'it returns false'. Refute it at one input. -/
def upgradePlaysWrong : ChangeSpec := { name := "upgradePlays", fn := fun _ => fun
  | [d1, d2, d3] => { results := [.lit (.bool false)], args := [d1, d2, d3] }
  | _ => none }
def UpgradePlaysWrongFalsely : Prop := upgradePlaysRow.holds Tryz.pinned (OpenSpec.ofChange upgradePlaysWrong)

/- THE SECOND FORM. 'bulk': how many values and letters a reading holds, each counted each time it is reached (what is shared counts as often as it is met; a slice's spare places count too). A statement '..UptoSaid' is the law's where the arguments, and the package variables that the reading takes, are together of bulk at most 1048576: NARROWER than '..Said'. Prove '..Said' where nothing that the law and all that it calls make is longer than what came in: it says more and counts as full. Else prove '..UptoSaid'. A law counts once. -/
mutual
def uptoBulk {H : Type} : DataW H → Nat
  | .lit (.string bytes) => bytes.length + 1
  | .lit _ => 1
  | .nil => 1
  | .ptr d => uptoBulk d + 1
  | .slice elems spare => uptoBulkAll elems + uptoBulkAll spare + 1
  | .agg parts => uptoBulkAll parts + 1
  | .iface _ d => uptoBulk d + 1
  | .map entries => uptoBulkEntries entries + 1
  | .held _ => 1
def uptoBulkAll {H : Type} : List (DataW H) → Nat
  | [] => 0
  | d :: r => uptoBulk d + uptoBulkAll r
def uptoBulkEntries {H : Type} : List (Lit × DataW H) → Nat
  | [] => 0
  | x :: r => uptoBulkEntry x + uptoBulkEntries r
def uptoBulkEntry {H : Type} : Lit × DataW H → Nat
  | (.string bytes, d) => bytes.length + uptoBulk d + 1
  | (_, d) => uptoBulk d + 1
 end
def uptoSmall : (H : Type) → List (DataW H) → Bool := fun _ ds => decide (uptoBulkAll ds ≤ 1048576)
def OpenSpec.upto (s : _root_.Go.ChangeSpec) : _root_.Go.OpenSpec := { _root_.Go.OpenSpec.ofChange s with cond := some uptoSmall }

/-- 'phrasebooklaw49.UpgradeSoon', WHERE WHAT IT READS IS OF BULK AT MOST 1048576: true; the input reads as it did. -/
def upgradeSoonUptoRow : OpenClaim := { program := "ytmgppdghdeokbaagreat", sum := "c78d3aae9fc2743d0c84449b3e3890eef60d9a0b66ad96787500aa35a6eba485", func := "phrasebook/phrasebooklaw49.UpgradeSoon", spec := "upgradeSoon", inPlace := ["maps.clone"], unfollowed := true, recurses := true, plainKeys := false, apart := false, narrowed := true }
def UpgradeSoonUptoSaid : Prop := upgradeSoonUptoRow.holds Tryz.pinned (OpenSpec.upto upgradeSoonSpec)

/-- 'phrasebooklaw49.UpgradeGoesOn', WHERE WHAT IT READS IS OF BULK AT MOST 1048576: true; the input reads as it did. -/
def upgradeGoesOnUptoRow : OpenClaim := { program := "ytmgppdghdeokbaagreat", sum := "c78d3aae9fc2743d0c84449b3e3890eef60d9a0b66ad96787500aa35a6eba485", func := "phrasebook/phrasebooklaw49.UpgradeGoesOn", spec := "upgradeGoesOn", inPlace := ["maps.clone"], unfollowed := true, recurses := true, plainKeys := false, apart := false, narrowed := true }
def UpgradeGoesOnUptoSaid : Prop := upgradeGoesOnUptoRow.holds Tryz.pinned (OpenSpec.upto upgradeGoesOnSpec)

/-- 'phrasebooklaw49.UpgradeComposes', WHERE WHAT IT READS IS OF BULK AT MOST 1048576: true; the input reads as it did. -/
def upgradeComposesUptoRow : OpenClaim := { program := "ytmgppdghdeokbaagreat", sum := "c78d3aae9fc2743d0c84449b3e3890eef60d9a0b66ad96787500aa35a6eba485", func := "phrasebook/phrasebooklaw49.UpgradeComposes", spec := "upgradeComposes", inPlace := ["maps.clone"], unfollowed := true, recurses := true, plainKeys := false, apart := false, narrowed := true }
def UpgradeComposesUptoSaid : Prop := upgradeComposesUptoRow.holds Tryz.pinned (OpenSpec.upto upgradeComposesSpec)

/-- 'phrasebooklaw49.UpgradeChains', WHERE WHAT IT READS IS OF BULK AT MOST 1048576: true; the input reads as it did. -/
def upgradeChainsUptoRow : OpenClaim := { program := "ytmgppdghdeokbaagreat", sum := "c78d3aae9fc2743d0c84449b3e3890eef60d9a0b66ad96787500aa35a6eba485", func := "phrasebook/phrasebooklaw49.UpgradeChains", spec := "upgradeChains", inPlace := ["maps.clone"], unfollowed := true, recurses := true, plainKeys := false, apart := false, narrowed := true }
def UpgradeChainsUptoSaid : Prop := upgradeChainsUptoRow.holds Tryz.pinned (OpenSpec.upto upgradeChainsSpec)

/-- 'phrasebooklaw49.UpgradePlays', WHERE WHAT IT READS IS OF BULK AT MOST 1048576: true; the input reads as it did. -/
def upgradePlaysUptoRow : OpenClaim := { program := "ytmgppdghdeokbaagreat", sum := "c78d3aae9fc2743d0c84449b3e3890eef60d9a0b66ad96787500aa35a6eba485", func := "phrasebook/phrasebooklaw49.UpgradePlays", spec := "upgradePlays", inPlace := ["maps.clone"], unfollowed := true, recurses := true, plainKeys := false, apart := false, narrowed := true }
def UpgradePlaysUptoSaid : Prop := upgradePlaysUptoRow.holds Tryz.pinned (OpenSpec.upto upgradePlaysSpec)

end Rows
end Go.Proofs.YtmgppdghdeokbaaGreat
