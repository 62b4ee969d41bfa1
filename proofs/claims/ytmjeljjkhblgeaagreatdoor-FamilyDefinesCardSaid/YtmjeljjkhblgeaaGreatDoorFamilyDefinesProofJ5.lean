/- What is proved: a part of what the row asks of the program itself. Conditions: none. -/
import Derived.Test.YtmjeljjkhblgeaaGreatDoorFamilyDefinesProof0
namespace Go.Proofs.YtmjeljjkhblgeaaGreatDoor.familyDefines
theorem joinF5a:mapsRowed Tryz.pinned.checked.prog=true:=by kernel_rfl
theorem joinF5b:(Rows.familyDefinesRow.plainKeys == Tryz.pinned.checked.prog.plainKeys)=true:=by kernel_rfl
theorem joinF5c:Tryz.pinned.checked.prog.stopsHeard=true:=by kernel_rfl
theorem joinF5d:Tryz.pinned.checked.prog.mayEnter=true:=by kernel_rfl
end Go.Proofs.YtmjeljjkhblgeaaGreatDoor.familyDefines
