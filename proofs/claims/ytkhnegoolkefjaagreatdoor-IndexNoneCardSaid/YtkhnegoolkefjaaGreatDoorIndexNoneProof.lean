/- What is proved: the given statement Rows.IndexNoneCardSaid: at every input the law IndexNone returns true and leaves what its arguments reach as it was. Conditions: none beyond those that the given row itself states. The road: the functions that the law reaches are turned into plain functions over data, which the kernel checks; the plain law is proved of those. -/
import Derived.Test.YtkhnegoolkefjaaGreatDoorIndexNoneProofK3
set_option linter.unusedVariables false
set_option linter.unusedSectionVars false
set_option linter.unusedSimpArgs false
namespace Go.Proofs.YtkhnegoolkefjaaGreatDoor.indexNone
open Go.AE Ix
theorem Se : Rows.IndexNoneCardSaid :=
 Claim7.holds_tied_plain_at .later [] [.data, .data, .data, .data, .pinned] true (true, "2c557b26de1306675b80025adc1c3e1126d87043e531c5867f029befb5d7da8f") true
  over (fun _ h => by cases h) kw (fun _ h => by cases h) indexNone_row_tie rfl ⟨rfl, rfl⟩ km rfl
  (fun f fn hf hfn => by
   obtain rfl : f = 3 := Option.some.inj (kf.symm.trans hf) |>.symm
   obtain rfl : fn = Tryz.f3 := (Option.some.inj (Tryz.func3.symm.trans hfn)).symm
   exact ⟨kl, fun j t ht => by
    have hall := ka
    have hm : t ∈ Tryz.f3.params.toList := by simpa using Array.mem_of_getElem? ht
    exact (show Tryz.prog.wantsStandIn t = false by simpa using List.all_eq_true.1 hall t hm)⟩)
  kg
theorem proved : Rows.IndexNoneCardSaid := Se
end Go.Proofs.YtkhnegoolkefjaaGreatDoor.indexNone


