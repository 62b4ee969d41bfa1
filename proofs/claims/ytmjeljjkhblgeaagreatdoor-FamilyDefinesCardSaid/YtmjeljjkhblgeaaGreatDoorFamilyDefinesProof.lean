/- What is proved: the given statement Rows.FamilyDefinesCardSaid: at every input the law FamilyDefines returns true and leaves what its arguments reach as it was. Conditions: none beyond those that the given row itself states. The road: the functions that the law reaches are turned into plain functions over data, which the kernel checks; the plain law is proved of those. -/
import Derived.Test.YtmjeljjkhblgeaaGreatDoorFamilyDefinesProofK0
import Derived.Test.YtmjeljjkhblgeaaGreatDoorFamilyDefinesProofK1
import Derived.Test.YtmjeljjkhblgeaaGreatDoorFamilyDefinesProofK2
import Derived.Test.YtmjeljjkhblgeaaGreatDoorFamilyDefinesProofK3
set_option linter.unusedVariables false
set_option linter.unusedSectionVars false
set_option linter.unusedSimpArgs false
namespace Go.Proofs.YtmjeljjkhblgeaaGreatDoor.familyDefines
open Go.AE Fdm
theorem Acj:Rows.FamilyDefinesCardSaid:=
 Claim7.holds_tied_plain_at .later [] [.data,.data,.data,.data,.sentinel,.sentinel,.pinned] true (true,"8d37c4310b5c98236aa40972fb4e4e839bdd1c5ad5fdff4fa22e88a4aab5ff13") true
  over (fun _ h=>by cases h) cardW (fun _ h=>by cases h) familyDefines_row_tie rfl ⟨rfl,rfl⟩ cardM rfl
  (fun f fn hf hfn=>by
   obtain rfl:f=5:=Option.some.inj (cardF.symm.trans hf) |>.symm
   obtain rfl:fn=Tryz.f5:=(Option.some.inj (Tryz.func5.symm.trans hfn)).symm
   exact ⟨cardL,fun j t ht=>by
    have hall := cardA
    have hm:t∈Tryz.f5.params.toList:=by simpa using Array.mem_of_getElem? ht
    exact (show Tryz.prog.wantsStandIn t=false by simpa using List.all_eq_true.1 hall t hm)⟩)
  cardG
theorem proved:Rows.FamilyDefinesCardSaid:=Acj
end Go.Proofs.YtmjeljjkhblgeaaGreatDoor.familyDefines


