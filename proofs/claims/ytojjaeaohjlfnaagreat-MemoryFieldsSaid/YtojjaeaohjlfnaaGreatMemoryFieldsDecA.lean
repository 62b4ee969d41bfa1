/- What is proved: that the law MemoryFields itself is the plain function over data whose tree of tests was written out before: place 0. Conditions: the program is the given one. -/
import Derived.Test.YtojjaeaohjlfnaaGreatMemoryFieldsDecF16
import Derived.Test.YtojjaeaohjlfnaaGreatMemoryFieldsDecF29
set_option linter.unusedVariables false
set_option linter.unusedSectionVars false
set_option linter.unusedSimpArgs false
namespace Go.Proofs.YtojjaeaohjlfnaaGreat.memoryFields
open Go.AE Mm
def m40 (E:Env):List Sm:=(d39 E).smL a39 (p39 E) 0 (d39 E).shs++m39 E
def p40 (E:Env):Pt:=LM E 4 [24,9,9]
def d40 (E:Env):Dec:=
 {g:=40,f:=4,p:=0,pts:=[p40 E],
  shs:=[L8]}
theorem jK:Ao (EF m40) [] 20000 (d40 E0) t40 0=some (jl (d40 E0) []):=by kernel_rfl
theorem c40:AO (EF m40) [] 20000 (d40 E0) t40:=dk1 rfl jK
end Go.Proofs.YtojjaeaohjlfnaaGreat.memoryFields

