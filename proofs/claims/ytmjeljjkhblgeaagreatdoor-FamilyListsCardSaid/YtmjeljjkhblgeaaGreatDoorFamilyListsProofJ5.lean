/- What is proved: a part of what the row asks of the program itself. Conditions: none. -/
import Derived.Test.YtmjeljjkhblgeaaGreatDoorFamilyListsProofJ4
namespace Go.Proofs.YtmjeljjkhblgeaaGreatDoor.familyLists
theorem jf5a:mapsRowed Tryz.pinned.checked.prog=true:=by kernel_rfl
theorem jf5b:(Rows.familyListsRow.plainKeys == Tryz.pinned.checked.prog.plainKeys)=true:=by kernel_rfl
theorem jf5c:Tryz.pinned.checked.prog.stopsHeard=true:=by kernel_rfl
theorem jf5d:Tryz.pinned.checked.prog.mayEnter=true:=by kernel_rfl
end Go.Proofs.YtmjeljjkhblgeaaGreatDoor.familyLists
