/- What is proved: that certain calls which the law FamilyExamples makes come to the results that are written here (part 1 of 16). Conditions: the memory that such a call reaches is as written here; the kernel runs the evaluator over each. -/
import Derived.Test.YtmjeljjkhblgeaaGreatDoorBeH
import Derived.Test.YtmjeljjkhblgeaaGreatDoorChecked
import Derived.KernelRfl
set_option linter.unusedVariables false
set_option linter.unusedSectionVars false
set_option linter.unusedSimpArgs false
namespace Go.Proofs.YtmjeljjkhblgeaaGreatDoor.familyExamples
open Go.AE
theorem okE (l:List Orc) (m:List Sm):∀[U:Unk],U.K=(Env.of Tryz.prog).kinds→OK (Env.ofS Tryz.prog l m):=fun {U} h=>OK.of (U:=U) (P:=Tryz.prog) (Checked.mixed Tryz.checked) (by kernel_rfl) h
theorem w0 (G:Nat→D→D):Ad (Env.ofS Tryz.prog [] []) G:=Ad.none (U:=AZ)
def y1:Ac:=.cells 4 (nd (.func (.func 278) [(.ptr 44 0)] []) (nd (.func (.func 279) [(.ptr 44 0)] []) (lf (.func (.func 281) [(.ptr 44 0)] [])) .nil) (lf (.func (.func 280) [(.ptr 44 0)] [])))
def y2:T Ac:=lf y1
def y3:T Ac:=no y2 .nil
def y4:T Ac:=no .nil y3
def y5:T Ac:=no .nil y4
def y6:T Ac:=no .nil y5
def y7:T AV:=nd (.str 0 0) (lf (.int .i64 (.ofNat 3))) .nil
def y8:T AV:=nd (.int .i64 (.ofNat 0)) (lf (.int .i64 (.ofNat 9))) .nil
def y9:AV:=.str 416 26887877872370717628590333463849519926503264312258379940856421635744580367824221889179817294009630211432797437353707483025058929452278489868087650059092832354817368261544714385300335013591013866308391433740199927253365051263882943151356524458138388805058112474480351413566232195257811099896715668327051941038148333294995140874727318138398882760034743565036859432718734059979577822544027156949977536016364049463339817047282323501873606293163820234173848431719605017806305269152865293837898736932882554403361590967353421672556197806209672847532888591114541317994844526682664113411491011284097398438011815436313987057844298154227138480988875024642025398990748550908762126844680827003207618114001531926284816845581561610180253977900018258815109000244545678487062537441938024077312230741412667678059280174214633292376488353007522931779902533601444445411093754577616917260612600229433478782192676404901119438283657431858126635412007114229414769886882724917644640947614673679508015983881492240718016837284464
def y10:T Ac:=no .nil (no (lf (.cells 4 (nd y9 (nd (.int .i64 (.ofNat 47)) (lf (.int .i64 (.ofNat 14))) .nil) (lf (.int .i64 (.ofNat 3)))))) .nil)
def y11:T Ac:=no .nil (no (no .nil y10) .nil)
def y12:T Ac:=no (no .nil (no .nil (no (lf (.cells 4 (nd y9 (nd (.int .i64 (.ofNat 48)) (lf (.int .i64 (.ofNat 15))) .nil) (lf (.int .i64 (.ofNat 3)))))) .nil))) .nil
def y13:T Ac:=no .nil y12
def y14:T AV:=nd (.int .i64 (.ofNat 0)) (lf (.int .i64 (.ofNat 15))) .nil
def y15:T Ac:=no (no .nil (no .nil (no (lf (.cells 4 (nd y9 (nd (.int .i64 (.ofNat 49)) (lf (.int .i64 (.ofNat 16))) .nil) (lf (.int .i64 (.ofNat 3)))))) .nil))) .nil
def y16:T Ac:=no .nil y15
def y17:T Ac:=no (lf (.cells 4 (nd y9 (nd (.int .i64 (.ofNat 50)) (lf (.int .i64 (.ofNat 17))) .nil) (lf (.int .i64 (.ofNat 3)))))) .nil
def y18:T Ac:=no .nil (no (no .nil (no .nil y17)) .nil)
def y19:T AV:=nd (.int .i64 (.ofNat 0)) (lf (.int .i64 (.ofNat 17))) .nil
def y20:T Ac:=no (lf (.cells 4 (nd y9 (nd (.int .i64 (.ofNat 53)) (lf (.int .i64 (.ofNat 20))) .nil) (lf (.int .i64 (.ofNat 3)))))) .nil
def y21:T Ac:=no .nil (no (no .nil (no .nil y20)) .nil)
def y22:T Ac:=no (no .nil (no .nil (no (lf (.cells 4 (nd y9 (nd (.int .i64 (.ofNat 54)) (lf (.int .i64 (.ofNat 21))) .nil) (lf (.int .i64 (.ofNat 3)))))) .nil))) .nil
def y23:T Ac:=no .nil y22
def y24:T AV:=nd (.int .i64 (.ofNat 0)) (lf (.int .i64 (.ofNat 21))) .nil
def y25:T Ac:=no (no .nil (no .nil (no (lf (.cells 4 (nd y9 (nd (.int .i64 (.ofNat 57)) (lf (.int .i64 (.ofNat 24))) .nil) (lf (.int .i64 (.ofNat 3)))))) .nil))) .nil
def y26:T AV:=nd (.int .i64 (.ofNat 0)) (lf (.int .i64 (.ofNat 24))) .nil
def y27:T Ac:=no (no .nil (no .nil (no (lf (.cells 4 (nd y9 (nd (.int .i64 (.ofNat 58)) (lf (.int .i64 (.ofNat 25))) .nil) (lf (.int .i64 (.ofNat 3)))))) .nil))) .nil
def y28:T Ac:=no .nil y27
def y29:T Ac:=no (no .nil (no .nil (no (lf (.cells 4 (nd y9 (nd (.int .i64 (.ofNat 61)) (lf (.int .i64 (.ofNat 3))) .nil) (lf (.int .i64 (.ofNat 4)))))) .nil))) .nil
def y30:T Ac:=no .nil y29
def y31:T AV:=nd (.str 0 0) (lf (.int .i64 (.ofNat 4))) .nil
def y32:T AV:=nd (.int .i64 (.ofNat 0)) (lf (.int .i64 (.ofNat 3))) .nil
def y33:T Ac:=no (no .nil (no .nil (no (lf (.cells 4 (nd y9 (nd (.int .i64 (.ofNat 65)) (lf (.int .i64 (.ofNat 7))) .nil) (lf (.int .i64 (.ofNat 4)))))) .nil))) .nil
def y34:T AV:=nd (.int .i64 (.ofNat 0)) (lf (.int .i64 (.ofNat 7))) .nil
def y35:T Ac:=no (no .nil (no .nil (no (lf (.cells 4 (nd y9 (nd (.int .i64 (.ofNat 66)) (lf (.int .i64 (.ofNat 8))) .nil) (lf (.int .i64 (.ofNat 4)))))) .nil))) .nil
def y36:T Ac:=no .nil y35
def y37:T Ac:=no (no .nil (no .nil (no (lf (.cells 4 (nd y9 (nd (.int .i64 (.ofNat 67)) (lf (.int .i64 (.ofNat 9))) .nil) (lf (.int .i64 (.ofNat 4)))))) .nil))) .nil
def y38:T Ac:=no .nil y37
def y39:T Ac:=no (no .nil (no .nil (no (lf (.cells 4 (nd y9 (nd (.int .i64 (.ofNat 72)) (lf (.int .i64 (.ofNat 14))) .nil) (lf (.int .i64 (.ofNat 4)))))) .nil))) .nil
def y40:T Ac:=no .nil y39
def y41:T Ac:=no (lf (.cells 4 (nd y9 (nd (.int .i64 (.ofNat 73)) (lf (.int .i64 (.ofNat 15))) .nil) (lf (.int .i64 (.ofNat 4)))))) .nil
def y42:T Ac:=no .nil (no (no .nil (no .nil y41)) .nil)
def y43:T Ac:=no (lf (.cells 4 (nd y9 (nd (.int .i64 (.ofNat 74)) (lf (.int .i64 (.ofNat 16))) .nil) (lf (.int .i64 (.ofNat 4)))))) .nil
def y44:T Ac:=no .nil (no (no .nil (no .nil y43)) .nil)
def y45:T Ac:=no (no .nil (no .nil (no (lf (.cells 4 (nd y9 (nd (.int .i64 (.ofNat 75)) (lf (.int .i64 (.ofNat 17))) .nil) (lf (.int .i64 (.ofNat 4)))))) .nil))) .nil
def y46:T Ac:=no .nil y45
def y47:T Ac:=no (no .nil (no .nil (no (lf (.cells 4 (nd y9 (nd (.int .i64 (.ofNat 78)) (lf (.int .i64 (.ofNat 20))) .nil) (lf (.int .i64 (.ofNat 4)))))) .nil))) .nil
def y48:T Ac:=no .nil y47
def y49:T Ac:=no .nil (no (lf (.cells 4 (nd y9 (nd (.int .i64 (.ofNat 79)) (lf (.int .i64 (.ofNat 21))) .nil) (lf (.int .i64 (.ofNat 4)))))) .nil)
def y50:T Ac:=no .nil (no (no .nil y49) .nil)
def y51:T Ac:=no .nil (no (lf (.cells 4 (nd y9 (nd (.int .i64 (.ofNat 81)) (lf (.int .i64 (.ofNat 23))) .nil) (lf (.int .i64 (.ofNat 4)))))) .nil)
def y52:T Ac:=no .nil y51
def y53:T AV:=nd (.int .i64 (.ofNat 0)) (lf (.int .i64 (.ofNat 23))) .nil
def y54:T Ac:=no .nil (no .nil (no (lf (.cells 4 (nd y9 (nd (.int .i64 (.ofNat 82)) (lf (.int .i64 (.ofNat 24))) .nil) (lf (.int .i64 (.ofNat 4)))))) .nil))
def y55:T Ac:=no .nil (no y54 .nil)
def y56:T Ac:=lf (.cells 4 (nd y9 (nd (.int .i64 (.ofNat 83)) (lf (.int .i64 (.ofNat 1))) .nil) (lf (.int .i64 (.ofNat 5)))))
def y57:T Ac:=no .nil (no (no .nil (no .nil (no y56 .nil))) .nil)
def y58:T AV:=nd (.str 0 0) (lf (.int .i64 (.ofNat 5))) .nil
def y59:T AV:=nd (.int .i64 (.ofNat 0)) (lf (.int .i64 (.ofNat 1))) .nil
def y60:T Ac:=lf (.cells 4 (nd y9 (nd (.int .i64 (.ofNat 84)) (lf (.int .i64 (.ofNat 2))) .nil) (lf (.int .i64 (.ofNat 5)))))
def y61:T Ac:=no .nil (no (no .nil (no .nil (no y60 .nil))) .nil)
def y62:T Ac:=no .nil (no .nil (no (lf (.cells 4 (nd y9 (nd (.int .i64 (.ofNat 85)) (lf (.int .i64 (.ofNat 1))) .nil) (lf (.int .i64 (.ofNat 6)))))) .nil))
def y63:T Ac:=no .nil (no y62 .nil)
def y64:T AV:=nd (.str 0 0) (lf (.int .i64 (.ofNat 6))) .nil
def y65:T Ac:=no .nil (no .nil (no (lf (.cells 4 (nd y9 (nd (.int .i64 (.ofNat 92)) (lf (.int .i64 (.ofNat 8))) .nil) (lf (.int .i64 (.ofNat 6)))))) .nil))
def y66:T Ac:=no .nil (no y65 .nil)
def y67:T Ac:=no (no .nil (no .nil (no (lf (.cells 4 (nd y9 (nd (.int .i64 (.ofNat 93)) (lf (.int .i64 (.ofNat 9))) .nil) (lf (.int .i64 (.ofNat 6)))))) .nil))) .nil
def y68:T Ac:=no .nil y67
def y69:T Ac:=no (no .nil (no .nil (no (lf (.cells 4 (nd y9 (nd (.int .i64 (.ofNat 98)) (lf (.int .i64 (.ofNat 14))) .nil) (lf (.int .i64 (.ofNat 6)))))) .nil))) .nil
def y70:T Ac:=no .nil y69
def y71:Ac:=.cells 4 (nd y9 (nd (.int .i64 (.ofNat 99)) (lf (.int .i64 (.ofNat 15))) .nil) (lf (.int .i64 (.ofNat 6))))
def y72:T Ac:=no .nil (no (no .nil (no .nil (no (lf y71) .nil))) .nil)
def y73:Ac:=.cells 4 (nd y9 (nd (.int .i64 (.ofNat 100)) (lf (.int .i64 (.ofNat 16))) .nil) (lf (.int .i64 (.ofNat 6))))
def y74:T Ac:=no .nil (no (no .nil (no .nil (no (lf y73) .nil))) .nil)
def y75:T Ac:=no .nil (no .nil (no (lf (.cells 4 (nd y9 (nd (.int .i64 (.ofNat 103)) (lf (.int .i64 (.ofNat 3))) .nil) (lf (.int .i64 (.ofNat 7)))))) .nil))
def y76:T Ac:=no .nil (no y75 .nil)
def y77:T AV:=nd (.str 0 0) (lf (.int .i64 (.ofNat 7))) .nil
def y78:T Ac:=no .nil (no .nil (no (lf (.cells 4 (nd y9 (nd (.int .i64 (.ofNat 109)) (lf (.int .i64 (.ofNat 9))) .nil) (lf (.int .i64 (.ofNat 7)))))) .nil))
def y79:T Ac:=no .nil (no .nil (no (lf (.cells 4 (nd y9 (nd (.int .i64 (.ofNat 110)) (lf (.int .i64 (.ofNat 10))) .nil) (lf (.int .i64 (.ofNat 7)))))) .nil))
def y80:T Ac:=no .nil (no y79 .nil)
def y81:T Ac:=lf (.cells 4 (nd y9 (nd (.int .i64 (.ofNat 111)) (lf (.int .i64 (.ofNat 11))) .nil) (lf (.int .i64 (.ofNat 7)))))
def y82:T Ac:=no .nil (no (no .nil (no .nil (no y81 .nil))) .nil)
def y83:T AV:=nd (.int .i64 (.ofNat 0)) (lf (.int .i64 (.ofNat 11))) .nil
def y84:T Ac:=lf (.cells 4 (nd y9 (nd (.int .i64 (.ofNat 115)) (lf (.int .i64 (.ofNat 15))) .nil) (lf (.int .i64 (.ofNat 7)))))
def y85:T Ac:=no .nil (no (no .nil (no .nil (no y84 .nil))) .nil)
def y86:T Ac:=no (no .nil (no .nil (no (lf (.cells 4 (nd y9 (nd (.int .i64 (.ofNat 116)) (lf (.int .i64 (.ofNat 16))) .nil) (lf (.int .i64 (.ofNat 7)))))) .nil))) .nil
def y87:T Ac:=no .nil y86
def y88:T AV:=nd (.int .i64 (.ofNat 0)) (lf (.int .i64 (.ofNat 16))) .nil
def y89:T AV:=nd (.int .i64 (.ofNat 16)) (lf (.int .i64 (.ofNat 16))) .nil
def y90:T Ac:=no (no .nil (no .nil (no (lf (.cells 4 (nd y9 (nd (.int .i64 (.ofNat 118)) (lf (.int .i64 (.ofNat 18))) .nil) (lf (.int .i64 (.ofNat 7)))))) .nil))) .nil
def y91:T Ac:=no .nil y90
def y92:T Ac:=no .nil (no (lf (.cells 4 (nd y9 (nd (.int .i64 (.ofNat 119)) (lf (.int .i64 (.ofNat 19))) .nil) (lf (.int .i64 (.ofNat 7)))))) .nil)
def y93:T Ac:=no .nil (no (no .nil y92) .nil)
def y94:T AV:=nd (.int .i64 (.ofNat 0)) (lf (.int .i64 (.ofNat 19))) .nil
def y95:T Ac:=no .nil (no (lf (.cells 4 (nd y9 (nd (.int .i64 (.ofNat 120)) (lf (.int .i64 (.ofNat 20))) .nil) (lf (.int .i64 (.ofNat 7)))))) .nil)
def y96:T Ac:=no .nil y95
def y97:T AV:=nd (.int .i64 (.ofNat 0)) (lf (.int .i64 (.ofNat 20))) .nil
def y98:T Ac:=no .nil (no .nil (no (lf (.cells 4 (nd y9 (nd (.int .i64 (.ofNat 122)) (lf (.int .i64 (.ofNat 22))) .nil) (lf (.int .i64 (.ofNat 7)))))) .nil))
def y99:T Ac:=no y98 .nil
def OJ:T AV:=nd (.int .i64 (.ofNat 0)) (lf (.int .i64 (.ofNat 22))) .nil
def eE:T AV:=nd (.int .i64 (.ofNat 65535)) (lf (.int .i64 (.ofNat 22))) .nil
def br:T Ac:=no (no .nil (no .nil (no (lf (.cells 4 (nd y9 (nd (.int .i64 (.ofNat 127)) (lf (.int .i64 (.ofNat 27))) .nil) (lf (.int .i64 (.ofNat 7)))))) .nil))) .nil
def QN:T AV:=nd (.int .i64 (.ofNat 0)) (lf (.int .i64 (.ofNat 27))) .nil
def ni:T Ac:=no (no .nil (no .nil (no (lf (.cells 4 (nd y9 (nd (.int .i64 (.ofNat 128)) (lf (.int .i64 (.ofNat 28))) .nil) (lf (.int .i64 (.ofNat 7)))))) .nil))) .nil
def kw:T Ac:=no .nil ni
def lF:T Ac:=no (no .nil (no .nil (no (lf (.cells 4 (nd y9 (nd (.int .i64 (.ofNat 131)) (lf (.int .i64 (.ofNat 3))) .nil) (lf (.int .i64 (.ofNat 8)))))) .nil))) .nil
def mR:T Ac:=no .nil lF
def FU:T AV:=nd (.str 0 0) (lf (.int .i64 (.ofNat 8))) .nil
def Wf:T Ac:=no (no .nil (no .nil (no (lf (.cells 4 (nd y9 (nd (.int .i64 (.ofNat 135)) (lf (.int .i64 (.ofNat 7))) .nil) (lf (.int .i64 (.ofNat 8)))))) .nil))) .nil
def ly:T Ac:=no (no .nil (no .nil (no (lf (.cells 4 (nd y9 (nd (.int .i64 (.ofNat 136)) (lf (.int .i64 (.ofNat 8))) .nil) (lf (.int .i64 (.ofNat 8)))))) .nil))) .nil
def iB:T Ac:=no .nil ly
def mP:T Ac:=no (no .nil (no .nil (no (lf (.cells 4 (nd y9 (nd (.int .i64 (.ofNat 137)) (lf (.int .i64 (.ofNat 9))) .nil) (lf (.int .i64 (.ofNat 8)))))) .nil))) .nil
def jm:T Ac:=no .nil mP
def dC:T Ac:=no (no .nil (no .nil (no (lf (.cells 4 (nd y9 (nd (.int .i64 (.ofNat 141)) (lf (.int .i64 (.ofNat 13))) .nil) (lf (.int .i64 (.ofNat 8)))))) .nil))) .nil
def pQ:T Ac:=no .nil dC
def iQ:T Ac:=no .nil (no .nil (no (lf (.cells 4 (nd y9 (nd (.int .i64 (.ofNat 142)) (lf (.int .i64 (.ofNat 14))) .nil) (lf (.int .i64 (.ofNat 8)))))) .nil))
def gr:T Ac:=no .nil (no iQ .nil)
def dE:T AV:=nd (.int .i64 (.ofNat 0)) (lf (.int .i64 (.ofNat 14))) .nil
def iT:T Ac:=no .nil (no .nil (no (lf (.cells 4 (nd y9 (nd (.int .i64 (.ofNat 144)) (lf (.int .i64 (.ofNat 16))) .nil) (lf (.int .i64 (.ofNat 8)))))) .nil))
def fN:T AV:=nd (.int .i64 (.ofNat 16)) (lf (.int .i64 (.ofNat 14))) .nil
def jR:T Ac:=no .nil (no iT .nil)
def iJ:T Ac:=no (no .nil (no .nil (no (lf (.cells 4 (nd y9 (nd (.int .i64 (.ofNat 145)) (lf (.int .i64 (.ofNat 17))) .nil) (lf (.int .i64 (.ofNat 8)))))) .nil))) .nil
def hP:T Ac:=no .nil iJ
def Z0:T Ac:=no (no .nil (no .nil (no (lf (.cells 4 (nd y9 (nd (.int .i64 (.ofNat 146)) (lf (.int .i64 (.ofNat 18))) .nil) (lf (.int .i64 (.ofNat 8)))))) .nil))) .nil
def SV:T AV:=nd (.int .i64 (.ofNat 0)) (lf (.int .i64 (.ofNat 18))) .nil
def ml:T Ac:=no .nil (no (lf (.cells 4 (nd y9 (nd (.int .i64 (.ofNat 148)) (lf (.int .i64 (.ofNat 20))) .nil) (lf (.int .i64 (.ofNat 8)))))) .nil)
def eF:T Ac:=no (no .nil ml) .nil
def nf:T Ac:=no .nil (no (lf (.cells 4 (nd y9 (nd (.int .i64 (.ofNat 151)) (lf (.int .i64 (.ofNat 23))) .nil) (lf (.int .i64 (.ofNat 8)))))) .nil)
def hZ:T Ac:=no .nil nf
def fy:T Ac:=no .nil (no .nil (no (lf (.cells 4 (nd y9 (nd (.int .i64 (.ofNat 152)) (lf (.int .i64 (.ofNat 24))) .nil) (lf (.int .i64 (.ofNat 8)))))) .nil))
def lu:T Ac:=no .nil (no fy .nil)
def mX:Ac:=.cells 4 (nd y9 (nd (.int .i64 (.ofNat 155)) (lf (.int .i64 (.ofNat 3))) .nil) (lf (.int .i64 (.ofNat 9))))
def na:T Ac:=no .nil (no (no .nil (no .nil (no (lf mX) .nil))) .nil)
def GP:T AV:=nd (.str 0 0) (lf (.int .i64 (.ofNat 9))) .nil
def ow:Ac:=.cells 4 (nd y9 (nd (.int .i64 (.ofNat 159)) (lf (.int .i64 (.ofNat 7))) .nil) (lf (.int .i64 (.ofNat 9))))
def fH:T Ac:=no .nil (no (lf ow) .nil)
def m5:T Ac:=no .nil (no (lf (.cells 4 (nd y9 (nd (.int .i64 (.ofNat 160)) (lf (.int .i64 (.ofNat 8))) .nil) (lf (.int .i64 (.ofNat 9)))))) .nil)
def fZ:T Ac:=no .nil (no (no .nil m5) .nil)
def ld:T Ac:=no .nil (no .nil (no (lf (.cells 4 (nd y9 (nd (.int .i64 (.ofNat 161)) (lf (.int .i64 (.ofNat 9))) .nil) (lf (.int .i64 (.ofNat 9)))))) .nil))
def pf:T Ac:=no .nil (no ld .nil)
def lG:T Ac:=no .nil (no .nil (no (lf (.cells 4 (nd y9 (nd (.int .i64 (.ofNat 166)) (lf (.int .i64 (.ofNat 14))) .nil) (lf (.int .i64 (.ofNat 9)))))) .nil))
def dP:T Ac:=no .nil (no lG .nil)
def pq:T Ac:=no (no .nil (no .nil (no (lf (.cells 4 (nd y9 (nd (.int .i64 (.ofNat 167)) (lf (.int .i64 (.ofNat 15))) .nil) (lf (.int .i64 (.ofNat 9)))))) .nil))) .nil
def gu:T Ac:=no .nil pq
def nU:T Ac:=no .nil (no (lf (.cells 4 (nd y9 (nd (.int .i64 (.ofNat 168)) (lf (.int .i64 (.ofNat 16))) .nil) (lf (.int .i64 (.ofNat 9)))))) .nil)
def jq:T Ac:=no (no .nil nU) .nil
def lX:T Ac:=no (lf (.cells 4 (nd y9 (nd (.int .i64 (.ofNat 172)) (lf (.int .i64 (.ofNat 20))) .nil) (lf (.int .i64 (.ofNat 9)))))) .nil
def fT:T Ac:=no .nil lX
def m8:T Ac:=no (lf (.cells 4 (nd y9 (nd (.int .i64 (.ofNat 173)) (lf (.int .i64 (.ofNat 21))) .nil) (lf (.int .i64 (.ofNat 9)))))) .nil
def fM:T Ac:=no (no .nil (no .nil m8)) .nil
def lS:T Ac:=no (no .nil (no .nil (no (lf (.cells 4 (nd y9 (nd (.int .i64 (.ofNat 174)) (lf (.int .i64 (.ofNat 22))) .nil) (lf (.int .i64 (.ofNat 9)))))) .nil))) .nil
def ft:T Ac:=no .nil lS
def nL:T Ac:=no (no .nil (no .nil (no (lf (.cells 4 (nd y9 (nd (.int .i64 (.ofNat 175)) (lf (.int .i64 (.ofNat 1))) .nil) (lf (.int .i64 (.ofNat 10)))))) .nil))) .nil
def iO:T Ac:=no .nil nL
def oA:T AV:=nd (.str 0 0) (lf (.int .i64 (.ofNat 10))) .nil
def oW:T Ac:=no (no .nil (no .nil (no (lf (.cells 4 (nd y9 (nd (.int .i64 (.ofNat 176)) (lf (.int .i64 (.ofNat 2))) .nil) (lf (.int .i64 (.ofNat 10)))))) .nil))) .nil
def eS:T Ac:=no .nil oW
def gH:T Ac:=no (no .nil (no .nil (no (lf (.cells 4 (nd y9 (nd (.int .i64 (.ofNat 177)) (lf (.int .i64 (.ofNat 1))) .nil) (lf (.int .i64 (.ofNat 11)))))) .nil))) .nil
def gP:T Ac:=no .nil gH
def Rp:T AV:=nd (.str 0 0) (lf (.int .i64 (.ofNat 11))) .nil
def mr:T Ac:=no (no .nil (no .nil (no (lf (.cells 4 (nd y9 (nd (.int .i64 (.ofNat 184)) (lf (.int .i64 (.ofNat 8))) .nil) (lf (.int .i64 (.ofNat 11)))))) .nil))) .nil
def ir:T Ac:=no .nil mr
def mQ:T Ac:=no .nil (no .nil (no (lf (.cells 4 (nd y9 (nd (.int .i64 (.ofNat 185)) (lf (.int .i64 (.ofNat 9))) .nil) (lf (.int .i64 (.ofNat 11)))))) .nil))
def fP:T Ac:=no .nil (no mQ .nil)
def g7:T Ac:=no .nil (no .nil (no (lf (.cells 4 (nd y9 (nd (.int .i64 (.ofNat 188)) (lf (.int .i64 (.ofNat 12))) .nil) (lf (.int .i64 (.ofNat 11)))))) .nil))
def dz:T Ac:=no .nil (no g7 .nil)
def kR:T Ac:=no (no .nil (no .nil (no (lf (.cells 4 (nd y9 (nd (.int .i64 (.ofNat 189)) (lf (.int .i64 (.ofNat 13))) .nil) (lf (.int .i64 (.ofNat 11)))))) .nil))) .nil
def kD:T Ac:=no .nil kR
def Vm:T AV:=nd (.int .i64 (.ofNat 0)) (lf (.int .i64 (.ofNat 13))) .nil
def iU:T Ac:=no (no .nil (no .nil (no (lf (.cells 4 (nd y9 (nd (.int .i64 (.ofNat 190)) (lf (.int .i64 (.ofNat 14))) .nil) (lf (.int .i64 (.ofNat 11)))))) .nil))) .nil
def ny:T Ac:=no .nil iU
def pb:T Ac:=no (no .nil (no .nil (no (lf (.cells 4 (nd y9 (nd (.int .i64 (.ofNat 193)) (lf (.int .i64 (.ofNat 3))) .nil) (lf (.int .i64 (.ofNat 12)))))) .nil))) .nil
def gW:T Ac:=no .nil pb
def FT:T AV:=nd (.str 0 0) (lf (.int .i64 (.ofNat 12))) .nil
def aN:T Ac:=no (no .nil (no .nil (no (lf (.cells 4 (nd y9 (nd (.int .i64 (.ofNat 199)) (lf (.int .i64 (.ofNat 9))) .nil) (lf (.int .i64 (.ofNat 12)))))) .nil))) .nil
def jy:T Ac:=no (no .nil (no .nil (no (lf (.cells 4 (nd y9 (nd (.int .i64 (.ofNat 200)) (lf (.int .i64 (.ofNat 10))) .nil) (lf (.int .i64 (.ofNat 12)))))) .nil))) .nil
def oY:T Ac:=no .nil jy
def fD:T Ac:=no (no .nil (no .nil (no (lf (.cells 4 (nd y9 (nd (.int .i64 (.ofNat 201)) (lf (.int .i64 (.ofNat 11))) .nil) (lf (.int .i64 (.ofNat 12)))))) .nil))) .nil
def jW:T Ac:=no .nil fD
def gT:T Ac:=no (no .nil (no .nil (no (lf (.cells 4 (nd y9 (nd (.int .i64 (.ofNat 205)) (lf (.int .i64 (.ofNat 15))) .nil) (lf (.int .i64 (.ofNat 12)))))) .nil))) .nil
def fF:T Ac:=no .nil gT
def nj:T Ac:=no (lf (.cells 4 (nd y9 (nd (.int .i64 (.ofNat 206)) (lf (.int .i64 (.ofNat 16))) .nil) (lf (.int .i64 (.ofNat 12)))))) .nil
def mI:T Ac:=no .nil (no (no .nil (no .nil nj)) .nil)
def lM:T Ac:=no (lf (.cells 4 (nd y9 (nd (.int .i64 (.ofNat 208)) (lf (.int .i64 (.ofNat 18))) .nil) (lf (.int .i64 (.ofNat 12)))))) .nil
def gM:T Ac:=no .nil (no (no .nil (no .nil lM)) .nil)
def jK:T Ac:=no (no .nil (no .nil (no (lf (.cells 4 (nd y9 (nd (.int .i64 (.ofNat 209)) (lf (.int .i64 (.ofNat 19))) .nil) (lf (.int .i64 (.ofNat 12)))))) .nil))) .nil
def iA:T Ac:=no .nil jK
def aD:T Ac:=no (no .nil (no .nil (no (lf (.cells 4 (nd y9 (nd (.int .i64 (.ofNat 210)) (lf (.int .i64 (.ofNat 20))) .nil) (lf (.int .i64 (.ofNat 12)))))) .nil))) .nil
def mW:T Ac:=no .nil (no .nil (no (lf (.cells 4 (nd y9 (nd (.int .i64 (.ofNat 212)) (lf (.int .i64 (.ofNat 22))) .nil) (lf (.int .i64 (.ofNat 12)))))) .nil))
def j7:T Ac:=no mW .nil
def eT:Ac:=.cells 4 (nd y9 (nd (.int .i64 (.ofNat 217)) (lf (.int .i64 (.ofNat 27))) .nil) (lf (.int .i64 (.ofNat 12))))
def nr:T Ac:=no .nil (no .nil (no (lf eT) .nil))
def dL:Ac:=.cells 4 (nd y9 (nd (.int .i64 (.ofNat 218)) (lf (.int .i64 (.ofNat 28))) .nil) (lf (.int .i64 (.ofNat 12))))
def l6:T Ac:=no .nil (no (no .nil (no .nil (no (lf dL) .nil))) .nil)
def iM:T Ac:=no .nil (no .nil (no (lf (.cells 4 (nd y9 (nd (.int .i64 (.ofNat 219)) (lf (.int .i64 (.ofNat 1))) .nil) (lf (.int .i64 (.ofNat 13)))))) .nil))
def fg:T Ac:=no .nil (no iM .nil)
def iH:T AV:=nd (.str 0 0) (lf (.int .i64 (.ofNat 13))) .nil
def iu:T Ac:=no .nil (no .nil (no (lf (.cells 4 (nd y9 (nd (.int .i64 (.ofNat 220)) (lf (.int .i64 (.ofNat 2))) .nil) (lf (.int .i64 (.ofNat 13)))))) .nil))
def gc:T Ac:=no .nil (no iu .nil)
def ij:T Ac:=no .nil (no (lf (.cells 4 (nd y9 (nd (.int .i64 (.ofNat 221)) (lf (.int .i64 (.ofNat 1))) .nil) (lf (.int .i64 (.ofNat 14)))))) .nil)
def pR:T Ac:=no .nil (no (no .nil ij) .nil)
def RN:T AV:=nd (.str 0 0) (lf (.int .i64 (.ofNat 14))) .nil
def jh:T Ac:=no .nil (no (lf (.cells 4 (nd y9 (nd (.int .i64 (.ofNat 228)) (lf (.int .i64 (.ofNat 8))) .nil) (lf (.int .i64 (.ofNat 14)))))) .nil)
def cX:T Ac:=no .nil (no (no .nil jh) .nil)
def dq:T Ac:=no (no .nil (no .nil (no (lf (.cells 4 (nd y9 (nd (.int .i64 (.ofNat 229)) (lf (.int .i64 (.ofNat 9))) .nil) (lf (.int .i64 (.ofNat 14)))))) .nil))) .nil
def d6:T Ac:=no .nil dq
def lB:T Ac:=no (no .nil (no .nil (no (lf (.cells 4 (nd y9 (nd (.int .i64 (.ofNat 234)) (lf (.int .i64 (.ofNat 14))) .nil) (lf (.int .i64 (.ofNat 14)))))) .nil))) .nil
def iY:T Ac:=no .nil lB
def fu:T Ac:=no .nil (no .nil (no (lf (.cells 4 (nd y9 (nd (.int .i64 (.ofNat 235)) (lf (.int .i64 (.ofNat 15))) .nil) (lf (.int .i64 (.ofNat 14)))))) .nil))
def ip:T Ac:=no .nil (no fu .nil)
def nQ:T Ac:=no .nil (no .nil (no (lf (.cells 4 (nd y9 (nd (.int .i64 (.ofNat 236)) (lf (.int .i64 (.ofNat 16))) .nil) (lf (.int .i64 (.ofNat 14)))))) .nil))
def jP:T Ac:=no .nil (no nQ .nil)
def mn:T Ac:=no .nil (no (lf (.cells 4 (nd y9 (nd (.int .i64 (.ofNat 239)) (lf (.int .i64 (.ofNat 3))) .nil) (lf (.int .i64 (.ofNat 15)))))) .nil)
def dH:T Ac:=no .nil (no (no .nil mn) .nil)
def FZ:T AV:=nd (.str 0 0) (lf (.int .i64 (.ofNat 15))) .nil
def px:Ac:=.cells 4 (nd y9 (nd (.int .i64 (.ofNat 243)) (lf (.int .i64 (.ofNat 7))) .nil) (lf (.int .i64 (.ofNat 15))))
def lC:T Ac:=no .nil (no (lf px) .nil)
def dY:Ac:=.cells 4 (nd y9 (nd (.int .i64 (.ofNat 244)) (lf (.int .i64 (.ofNat 8))) .nil) (lf (.int .i64 (.ofNat 15))))
def eH:T Ac:=no .nil (no (no .nil (no .nil (no (lf dY) .nil))) .nil)
def hI:T Ac:=no .nil (no .nil (no (lf (.cells 4 (nd y9 (nd (.int .i64 (.ofNat 245)) (lf (.int .i64 (.ofNat 9))) .nil) (lf (.int .i64 (.ofNat 15)))))) .nil))
def kL:T Ac:=no .nil (no hI .nil)
def cZ:T Ac:=no .nil (no .nil (no (lf (.cells 4 (nd y9 (nd (.int .i64 (.ofNat 249)) (lf (.int .i64 (.ofNat 13))) .nil) (lf (.int .i64 (.ofNat 15)))))) .nil))
def oF:T Ac:=no .nil (no cZ .nil)
def i6:T Ac:=no (no .nil (no .nil (no (lf (.cells 4 (nd y9 (nd (.int .i64 (.ofNat 250)) (lf (.int .i64 (.ofNat 14))) .nil) (lf (.int .i64 (.ofNat 15)))))) .nil))) .nil
def ma:T Ac:=no .nil i6
def fQ:T Ac:=no (no .nil (no .nil (no (lf (.cells 4 (nd y9 (nd (.int .i64 (.ofNat 252)) (lf (.int .i64 (.ofNat 16))) .nil) (lf (.int .i64 (.ofNat 15)))))) .nil))) .nil
def nE:T Ac:=no .nil fQ
def gR:T Ac:=no .nil (no .nil (no (lf (.cells 4 (nd y9 (nd (.int .i64 (.ofNat 253)) (lf (.int .i64 (.ofNat 17))) .nil) (lf (.int .i64 (.ofNat 15)))))) .nil))
def mc:T Ac:=no .nil (no gR .nil)
def ka:T Ac:=no (lf (.cells 4 (nd y9 (nd (.int .i64 (.ofNat 254)) (lf (.int .i64 (.ofNat 18))) .nil) (lf (.int .i64 (.ofNat 15)))))) .nil
def fX:T Ac:=no .nil (no .nil ka)
def nq:T Ac:=no (lf (.cells 4 (nd y9 (nd (.int .i64 (.ofNat 256)) (lf (.int .i64 (.ofNat 20))) .nil) (lf (.int .i64 (.ofNat 15)))))) .nil
def fB:T Ac:=no (no .nil (no .nil nq)) .nil
def jr:T AV:=nd (.int .i64 (.ofNat 8)) (lf (.int .i64 (.ofNat 20))) .nil
def bS:T Ac:=no (no .nil (no .nil (no (lf (.cells 4 (nd y9 (nd (.int .i64 (.ofNat 257)) (lf (.int .i64 (.ofNat 21))) .nil) (lf (.int .i64 (.ofNat 15)))))) .nil))) .nil
def pP:T Ac:=no (no .nil (no .nil (no (lf (.cells 4 (nd y9 (nd (.int .i64 (.ofNat 258)) (lf (.int .i64 (.ofNat 22))) .nil) (lf (.int .i64 (.ofNat 15)))))) .nil))) .nil
def mO:T Ac:=no .nil pP
def fk:T Ac:=no (no .nil (no .nil (no (lf (.cells 4 (nd y9 (nd (.int .i64 (.ofNat 261)) (lf (.int .i64 (.ofNat 3))) .nil) (lf (.int .i64 (.ofNat 16)))))) .nil))) .nil
def nG:T Ac:=no .nil fk
def Hs:T AV:=nd (.str 0 0) (lf (.int .i64 (.ofNat 16))) .nil
def aO:T Ac:=no (no .nil (no .nil (no (lf (.cells 4 (nd y9 (nd (.int .i64 (.ofNat 267)) (lf (.int .i64 (.ofNat 9))) .nil) (lf (.int .i64 (.ofNat 16)))))) .nil))) .nil
def je:T Ac:=no (no .nil (no .nil (no (lf (.cells 4 (nd y9 (nd (.int .i64 (.ofNat 268)) (lf (.int .i64 (.ofNat 10))) .nil) (lf (.int .i64 (.ofNat 16)))))) .nil))) .nil
def jn:T Ac:=no .nil je
def mD:T Ac:=no (no .nil (no .nil (no (lf (.cells 4 (nd y9 (nd (.int .i64 (.ofNat 269)) (lf (.int .i64 (.ofNat 11))) .nil) (lf (.int .i64 (.ofNat 16)))))) .nil))) .nil
def pE:T Ac:=no .nil mD
def oI:T Ac:=no (no .nil (no .nil (no (lf (.cells 4 (nd y9 (nd (.int .i64 (.ofNat 274)) (lf (.int .i64 (.ofNat 16))) .nil) (lf (.int .i64 (.ofNat 16)))))) .nil))) .nil
def m9:T Ac:=no .nil oI
def fe:T Ac:=no (lf (.cells 4 (nd y9 (nd (.int .i64 (.ofNat 275)) (lf (.int .i64 (.ofNat 17))) .nil) (lf (.int .i64 (.ofNat 16)))))) .nil
def mA:T Ac:=no .nil (no (no .nil (no .nil fe)) .nil)
def en:T Ac:=no (lf (.cells 4 (nd y9 (nd (.int .i64 (.ofNat 276)) (lf (.int .i64 (.ofNat 18))) .nil) (lf (.int .i64 (.ofNat 16)))))) .nil
def mj:T Ac:=no .nil (no (no .nil (no .nil en)) .nil)
def jQ:T Ac:=no (no .nil (no .nil (no (lf (.cells 4 (nd y9 (nd (.int .i64 (.ofNat 277)) (lf (.int .i64 (.ofNat 19))) .nil) (lf (.int .i64 (.ofNat 16)))))) .nil))) .nil
def fI:T Ac:=no .nil jQ
def pu:T Ac:=no (no .nil (no .nil (no (lf (.cells 4 (nd y9 (nd (.int .i64 (.ofNat 280)) (lf (.int .i64 (.ofNat 22))) .nil) (lf (.int .i64 (.ofNat 16)))))) .nil))) .nil
def fW:T Ac:=no .nil pu
def dW:T Ac:=no .nil (no (lf (.cells 4 (nd y9 (nd (.int .i64 (.ofNat 281)) (lf (.int .i64 (.ofNat 23))) .nil) (lf (.int .i64 (.ofNat 16)))))) .nil)
def kT:T Ac:=no .nil (no (no .nil dW) .nil)
def fq:T Ac:=no .nil (no (lf (.cells 4 (nd y9 (nd (.int .i64 (.ofNat 284)) (lf (.int .i64 (.ofNat 26))) .nil) (lf (.int .i64 (.ofNat 16)))))) .nil)
def oD:T Ac:=no .nil fq
def fR:T AV:=nd (.int .i64 (.ofNat 0)) (lf (.int .i64 (.ofNat 26))) .nil
def lQ:T Ac:=no .nil (no .nil (no (lf (.cells 4 (nd y9 (nd (.int .i64 (.ofNat 285)) (lf (.int .i64 (.ofNat 27))) .nil) (lf (.int .i64 (.ofNat 16)))))) .nil))
def n9:T Ac:=no .nil (no lQ .nil)
def jz:T Ac:=lf (.cells 4 (nd y9 (nd (.int .i64 (.ofNat 286)) (lf (.int .i64 (.ofNat 1))) .nil) (lf (.int .i64 (.ofNat 17)))))
def oZ:T Ac:=no .nil (no (no .nil (no .nil (no jz .nil))) .nil)
def dh:T AV:=nd (.str 0 0) (lf (.int .i64 (.ofNat 17))) .nil
def oC:T Ac:=lf (.cells 4 (nd y9 (nd (.int .i64 (.ofNat 287)) (lf (.int .i64 (.ofNat 2))) .nil) (lf (.int .i64 (.ofNat 17)))))
def nH:T Ac:=no .nil (no (no .nil (no .nil (no oC .nil))) .nil)
def lm:T Ac:=no .nil (no .nil (no (lf (.cells 4 (nd y9 (nd (.int .i64 (.ofNat 288)) (lf (.int .i64 (.ofNat 1))) .nil) (lf (.int .i64 (.ofNat 18)))))) .nil))
def iy:T Ac:=no .nil (no lm .nil)
def QW:T AV:=nd (.str 0 0) (lf (.int .i64 (.ofNat 18))) .nil
def nT:T Ac:=no .nil (no .nil (no (lf (.cells 4 (nd y9 (nd (.int .i64 (.ofNat 295)) (lf (.int .i64 (.ofNat 8))) .nil) (lf (.int .i64 (.ofNat 18)))))) .nil))
def i7:T Ac:=no .nil (no nT .nil)
def dg:T Ac:=no (no .nil (no .nil (no (lf (.cells 4 (nd y9 (nd (.int .i64 (.ofNat 296)) (lf (.int .i64 (.ofNat 9))) .nil) (lf (.int .i64 (.ofNat 18)))))) .nil))) .nil
def lD:T Ac:=no .nil dg
def dG:T Ac:=no (no .nil (no .nil (no (lf (.cells 4 (nd y9 (nd (.int .i64 (.ofNat 302)) (lf (.int .i64 (.ofNat 15))) .nil) (lf (.int .i64 (.ofNat 18)))))) .nil))) .nil
def dT:T Ac:=no .nil dG
def gd:Ac:=.cells 4 (nd y9 (nd (.int .i64 (.ofNat 303)) (lf (.int .i64 (.ofNat 16))) .nil) (lf (.int .i64 (.ofNat 18))))
def jE:T Ac:=no .nil (no (no .nil (no .nil (no (lf gd) .nil))) .nil)
def kx:Ac:=.cells 4 (nd y9 (nd (.int .i64 (.ofNat 304)) (lf (.int .i64 (.ofNat 17))) .nil) (lf (.int .i64 (.ofNat 18))))
def jI:T Ac:=no .nil (no (no .nil (no .nil (no (lf kx) .nil))) .nil)
def m7:T Ac:=no .nil (no .nil (no (lf (.cells 4 (nd y9 (nd (.int .i64 (.ofNat 307)) (lf (.int .i64 (.ofNat 3))) .nil) (lf (.int .i64 (.ofNat 19)))))) .nil))
def dF:T Ac:=no .nil (no m7 .nil)
def FX:T AV:=nd (.str 0 0) (lf (.int .i64 (.ofNat 19))) .nil
def XU:T Ac:=no .nil (no .nil (no (lf (.cells 4 (nd y9 (nd (.int .i64 (.ofNat 309)) (lf (.int .i64 (.ofNat 5))) .nil) (lf (.int .i64 (.ofNat 19)))))) .nil))
def dk:T AV:=nd (.int .i64 (.ofNat 0)) (lf (.int .i64 (.ofNat 5))) .nil
def gJ:T Ac:=no .nil (no .nil (no (lf (.cells 4 (nd y9 (nd (.int .i64 (.ofNat 310)) (lf (.int .i64 (.ofNat 6))) .nil) (lf (.int .i64 (.ofNat 19)))))) .nil))
def gp:T Ac:=no .nil (no gJ .nil)
def ol:T Ac:=lf (.cells 4 (nd y9 (nd (.int .i64 (.ofNat 311)) (lf (.int .i64 (.ofNat 7))) .nil) (lf (.int .i64 (.ofNat 19)))))
def lY:T Ac:=no .nil (no (no .nil (no .nil (no ol .nil))) .nil)
def jX:T Ac:=lf (.cells 4 (nd y9 (nd (.int .i64 (.ofNat 315)) (lf (.int .i64 (.ofNat 11))) .nil) (lf (.int .i64 (.ofNat 19)))))
def oJ:T Ac:=no .nil (no (no .nil (no .nil (no jX .nil))) .nil)
def dJ:T Ac:=no (no .nil (no .nil (no (lf (.cells 4 (nd y9 (nd (.int .i64 (.ofNat 316)) (lf (.int .i64 (.ofNat 12))) .nil) (lf (.int .i64 (.ofNat 19)))))) .nil))) .nil
def eD:T Ac:=no .nil dJ
def j8:T AV:=nd (.int .i64 (.ofNat 0)) (lf (.int .i64 (.ofNat 12))) .nil
def oz:T Ac:=no (no .nil (no .nil (no (lf (.cells 4 (nd y9 (nd (.int .i64 (.ofNat 318)) (lf (.int .i64 (.ofNat 14))) .nil) (lf (.int .i64 (.ofNat 19)))))) .nil))) .nil
def oR:T Ac:=no .nil oz
def mB:T Ac:=no .nil (no (lf (.cells 4 (nd y9 (nd (.int .i64 (.ofNat 319)) (lf (.int .i64 (.ofNat 15))) .nil) (lf (.int .i64 (.ofNat 19)))))) .nil)
def n4:T Ac:=no .nil (no (no .nil mB) .nil)
def pD:T Ac:=no .nil (no (lf (.cells 4 (nd y9 (nd (.int .i64 (.ofNat 320)) (lf (.int .i64 (.ofNat 16))) .nil) (lf (.int .i64 (.ofNat 19)))))) .nil)
def fG:T Ac:=no .nil pD
def nI:T Ac:=no .nil (no .nil (no (lf (.cells 4 (nd y9 (nd (.int .i64 (.ofNat 322)) (lf (.int .i64 (.ofNat 18))) .nil) (lf (.int .i64 (.ofNat 19)))))) .nil))
def mJ:T Ac:=no nI .nil
def W6:T Ac:=no (no .nil (no .nil (no (lf (.cells 4 (nd y9 (nd (.int .i64 (.ofNat 323)) (lf (.int .i64 (.ofNat 19))) .nil) (lf (.int .i64 (.ofNat 19)))))) .nil))) .nil
def oS:T Ac:=no (no .nil (no .nil (no (lf (.cells 4 (nd y9 (nd (.int .i64 (.ofNat 324)) (lf (.int .i64 (.ofNat 20))) .nil) (lf (.int .i64 (.ofNat 19)))))) .nil))) .nil
def j6:T Ac:=no .nil oS
def jA:T Ac:=no (no .nil (no .nil (no (lf (.cells 4 (nd y9 (nd (.int .i64 (.ofNat 327)) (lf (.int .i64 (.ofNat 3))) .nil) (lf (.int .i64 (.ofNat 20)))))) .nil))) .nil
def iG:T Ac:=no .nil jA
def AN:T AV:=nd (.str 0 0) (lf (.int .i64 (.ofNat 20))) .nil
def WD:T Ac:=no (no .nil (no .nil (no (lf (.cells 4 (nd y9 (nd (.int .i64 (.ofNat 331)) (lf (.int .i64 (.ofNat 7))) .nil) (lf (.int .i64 (.ofNat 20)))))) .nil))) .nil
def gv:T Ac:=no (no .nil (no .nil (no (lf (.cells 4 (nd y9 (nd (.int .i64 (.ofNat 332)) (lf (.int .i64 (.ofNat 8))) .nil) (lf (.int .i64 (.ofNat 20)))))) .nil))) .nil
def d9:T Ac:=no .nil gv
def my:T Ac:=no (no .nil (no .nil (no (lf (.cells 4 (nd y9 (nd (.int .i64 (.ofNat 333)) (lf (.int .i64 (.ofNat 9))) .nil) (lf (.int .i64 (.ofNat 20)))))) .nil))) .nil
def pJ:T Ac:=no .nil my
def gL:T Ac:=no (no .nil (no .nil (no (lf (.cells 4 (nd y9 (nd (.int .i64 (.ofNat 339)) (lf (.int .i64 (.ofNat 15))) .nil) (lf (.int .i64 (.ofNat 20)))))) .nil))) .nil
def kH:T Ac:=no .nil gL
def nA:T Ac:=no .nil (no .nil (no (lf (.cells 4 (nd y9 (nd (.int .i64 (.ofNat 340)) (lf (.int .i64 (.ofNat 16))) .nil) (lf (.int .i64 (.ofNat 20)))))) .nil))
def lA:T Ac:=no .nil (no nA .nil)
def g9:T Ac:=no .nil (no .nil (no (lf (.cells 4 (nd y9 (nd (.int .i64 (.ofNat 342)) (lf (.int .i64 (.ofNat 18))) .nil) (lf (.int .i64 (.ofNat 20)))))) .nil))
def nB:T Ac:=no .nil (no g9 .nil)
def ng:T Ac:=no (no .nil (no .nil (no (lf (.cells 4 (nd y9 (nd (.int .i64 (.ofNat 343)) (lf (.int .i64 (.ofNat 19))) .nil) (lf (.int .i64 (.ofNat 20)))))) .nil))) .nil
def lW:T Ac:=no .nil ng
def lc:T Ac:=no (no .nil (no .nil (no (lf (.cells 4 (nd y9 (nd (.int .i64 (.ofNat 344)) (lf (.int .i64 (.ofNat 20))) .nil) (lf (.int .i64 (.ofNat 20)))))) .nil))) .nil
def fv:T Ac:=no .nil lc
def pL:T Ac:=no (no .nil (no .nil (no (lf (.cells 4 (nd y9 (nd (.int .i64 (.ofNat 345)) (lf (.int .i64 (.ofNat 21))) .nil) (lf (.int .i64 (.ofNat 20)))))) .nil))) .nil
def kz:T Ac:=no .nil pL
def WJ:T Ac:=no (no .nil (no .nil (no (lf (.cells 4 (nd y9 (nd (.int .i64 (.ofNat 346)) (lf (.int .i64 (.ofNat 22))) .nil) (lf (.int .i64 (.ofNat 20)))))) .nil))) .nil
def eK:T Ac:=no (lf (.cells 4 (nd y9 (nd (.int .i64 (.ofNat 348)) (lf (.int .i64 (.ofNat 24))) .nil) (lf (.int .i64 (.ofNat 20)))))) .nil
def kY:T Ac:=no (no .nil (no .nil eK)) .nil
def ph:T Ac:=no (lf (.cells 4 (nd y9 (nd (.int .i64 (.ofNat 349)) (lf (.int .i64 (.ofNat 25))) .nil) (lf (.int .i64 (.ofNat 20)))))) .nil
def oL:T Ac:=no .nil (no .nil ph)
def fh:T AV:=nd (.int .i64 (.ofNat 0)) (lf (.int .i64 (.ofNat 25))) .nil
def jU:T Ac:=no .nil (no .nil (no (lf (.cells 4 (nd y9 (nd (.int .i64 (.ofNat 350)) (lf (.int .i64 (.ofNat 26))) .nil) (lf (.int .i64 (.ofNat 20)))))) .nil))
def ig:T Ac:=no .nil (no jU .nil)
def ia:T Ac:=no .nil (no (lf (.cells 4 (nd y9 (nd (.int .i64 (.ofNat 351)) (lf (.int .i64 (.ofNat 27))) .nil) (lf (.int .i64 (.ofNat 20)))))) .nil)
def i8:T Ac:=no .nil (no (no .nil ia) .nil)
def gi:T Ac:=no (lf (.cells 4 (nd y9 (nd (.int .i64 (.ofNat 358)) (lf (.int .i64 (.ofNat 34))) .nil) (lf (.int .i64 (.ofNat 20)))))) .nil
def eR:T Ac:=no .nil gi
def oN:T AV:=nd (.int .i64 (.ofNat 0)) (lf (.int .i64 (.ofNat 34))) .nil
def nF:T Ac:=no (lf (.cells 4 (nd y9 (nd (.int .i64 (.ofNat 359)) (lf (.int .i64 (.ofNat 35))) .nil) (lf (.int .i64 (.ofNat 20)))))) .nil
def kg:T Ac:=no .nil (no (no .nil (no .nil nF)) .nil)
def jV:T Ac:=no .nil (no .nil (no (lf (.cells 4 (nd y9 (nd (.int .i64 (.ofNat 360)) (lf (.int .i64 (.ofNat 36))) .nil) (lf (.int .i64 (.ofNat 20)))))) .nil))
def pC:T Ac:=no .nil (no jV .nil)
def ik:T Ac:=no .nil (no (lf (.cells 4 (nd y9 (nd (.int .i64 (.ofNat 361)) (lf (.int .i64 (.ofNat 37))) .nil) (lf (.int .i64 (.ofNat 20)))))) .nil)
def pw:T Ac:=no .nil ik
def ej:T AV:=nd (.int .i64 (.ofNat 0)) (lf (.int .i64 (.ofNat 37))) .nil
def oM:T Ac:=no .nil (no (lf (.cells 4 (nd y9 (nd (.int .i64 (.ofNat 363)) (lf (.int .i64 (.ofNat 39))) .nil) (lf (.int .i64 (.ofNat 20)))))) .nil)
def cY:T Ac:=no (no .nil oM) .nil
def XI:T Ac:=no (no .nil (no .nil (no (lf (.cells 4 (nd y9 (nd (.int .i64 (.ofNat 364)) (lf (.int .i64 (.ofNat 40))) .nil) (lf (.int .i64 (.ofNat 20)))))) .nil))) .nil
def n7:T AV:=nd (.int .i64 (.ofNat 0)) (lf (.int .i64 (.ofNat 40))) .nil
def gO:T Ac:=no (no .nil (no .nil (no (lf (.cells 4 (nd y9 (nd (.int .i64 (.ofNat 365)) (lf (.int .i64 (.ofNat 41))) .nil) (lf (.int .i64 (.ofNat 20)))))) .nil))) .nil
def dN:T Ac:=no .nil gO
def oK:T Ac:=no (no .nil (no .nil (no (lf (.cells 4 (nd y9 (nd (.int .i64 (.ofNat 366)) (lf (.int .i64 (.ofNat 42))) .nil) (lf (.int .i64 (.ofNat 20)))))) .nil))) .nil
def ep:T Ac:=no .nil oK
def fE:T AV:=nd (.int .i64 (.ofNat 0)) (lf (.int .i64 (.ofNat 42))) .nil
def cS:T Ac:=no (no .nil (no .nil (no (lf (.cells 4 (nd y9 (nd (.int .i64 (.ofNat 371)) (lf (.int .i64 (.ofNat 47))) .nil) (lf (.int .i64 (.ofNat 20)))))) .nil))) .nil
def gx:T AV:=nd (.int .i64 (.ofNat 0)) (lf (.int .i64 (.ofNat 47))) .nil
def iX:T Ac:=no (no .nil (no .nil (no (lf (.cells 4 (nd y9 (nd (.int .i64 (.ofNat 372)) (lf (.int .i64 (.ofNat 48))) .nil) (lf (.int .i64 (.ofNat 20)))))) .nil))) .nil
def jg:T Ac:=no .nil iX
def po:T Ac:=no (no .nil (no .nil (no (lf (.cells 4 (nd y9 (nd (.int .i64 (.ofNat 373)) (lf (.int .i64 (.ofNat 49))) .nil) (lf (.int .i64 (.ofNat 20)))))) .nil))) .nil
def dB:T Ac:=no .nil po
def Zh:T Ac:=no (no .nil (no .nil (no (lf (.cells 4 (nd y9 (nd (.int .i64 (.ofNat 374)) (lf (.int .i64 (.ofNat 50))) .nil) (lf (.int .i64 (.ofNat 20)))))) .nil))) .nil
def jN:T AV:=nd (.int .i64 (.ofNat 0)) (lf (.int .i64 (.ofNat 50))) .nil
def dX:T Ac:=no .nil (no .nil (no (lf (.cells 4 (nd y9 (nd (.int .i64 (.ofNat 376)) (lf (.int .i64 (.ofNat 52))) .nil) (lf (.int .i64 (.ofNat 20)))))) .nil))
def ou:T Ac:=no dX .nil
def md:Ac:=.cells 4 (nd y9 (nd (.int .i64 (.ofNat 377)) (lf (.int .i64 (.ofNat 53))) .nil) (lf (.int .i64 (.ofNat 20))))
def ff:T Ac:=no .nil (no .nil (no (lf md) .nil))
def dR:T AV:=nd (.int .i64 (.ofNat 0)) (lf (.int .i64 (.ofNat 53))) .nil
def kb:Ac:=.cells 4 (nd y9 (nd (.int .i64 (.ofNat 378)) (lf (.int .i64 (.ofNat 54))) .nil) (lf (.int .i64 (.ofNat 20))))
def eV:T Ac:=no .nil (no (no .nil (no .nil (no (lf kb) .nil))) .nil)
def mh:T Ac:=no .nil (no .nil (no (lf (.cells 4 (nd y9 (nd (.int .i64 (.ofNat 379)) (lf (.int .i64 (.ofNat 55))) .nil) (lf (.int .i64 (.ofNat 20)))))) .nil))
def ja:T Ac:=no .nil (no mh .nil)
def kM:T AV:=nd (.int .i64 (.ofNat 0)) (lf (.int .i64 (.ofNat 55))) .nil
def YL:T Ac:=no .nil (no .nil (no (lf (.cells 4 (nd y9 (nd (.int .i64 (.ofNat 382)) (lf (.int .i64 (.ofNat 58))) .nil) (lf (.int .i64 (.ofNat 20)))))) .nil))
def dj:T AV:=nd (.int .i64 (.ofNat 0)) (lf (.int .i64 (.ofNat 58))) .nil
def lh:T Ac:=no .nil (no .nil (no (lf (.cells 4 (nd y9 (nd (.int .i64 (.ofNat 383)) (lf (.int .i64 (.ofNat 59))) .nil) (lf (.int .i64 (.ofNat 20)))))) .nil))
def hQ:T Ac:=no .nil (no lh .nil)
def l7:T Ac:=lf (.cells 4 (nd y9 (nd (.int .i64 (.ofNat 384)) (lf (.int .i64 (.ofNat 60))) .nil) (lf (.int .i64 (.ofNat 20)))))
def g6:T Ac:=no .nil (no (no .nil (no .nil (no l7 .nil))) .nil)
def db:T Ac:=lf (.cells 4 (nd y9 (nd (.int .i64 (.ofNat 385)) (lf (.int .i64 (.ofNat 61))) .nil) (lf (.int .i64 (.ofNat 20)))))
def i5:T Ac:=no .nil (no .nil (no db .nil))
def jH:T AV:=nd (.int .i64 (.ofNat 0)) (lf (.int .i64 (.ofNat 61))) .nil
def kB:T Ac:=no .nil (no .nil (no (lf (.cells 4 (nd y9 (nd (.int .i64 (.ofNat 387)) (lf (.int .i64 (.ofNat 63))) .nil) (lf (.int .i64 (.ofNat 20)))))) .nil))
def lH:T Ac:=no kB .nil
def bE:T Ac:=no (no .nil (no .nil (no (lf (.cells 4 (nd y9 (nd (.int .i64 (.ofNat 388)) (lf (.int .i64 (.ofNat 64))) .nil) (lf (.int .i64 (.ofNat 20)))))) .nil))) .nil
def fc:T AV:=nd (.int .i64 (.ofNat 0)) (lf (.int .i64 (.ofNat 64))) .nil
def fV:T Ac:=no (no .nil (no .nil (no (lf (.cells 4 (nd y9 (nd (.int .i64 (.ofNat 389)) (lf (.int .i64 (.ofNat 65))) .nil) (lf (.int .i64 (.ofNat 20)))))) .nil))) .nil
def lK:T Ac:=no .nil fV
def om:T Ac:=no (no .nil (no .nil (no (lf (.cells 4 (nd y9 (nd (.int .i64 (.ofNat 390)) (lf (.int .i64 (.ofNat 66))) .nil) (lf (.int .i64 (.ofNat 20)))))) .nil))) .nil
def kj:T Ac:=no .nil om
def oX:T AV:=nd (.int .i64 (.ofNat 0)) (lf (.int .i64 (.ofNat 66))) .nil
def Ym:T Ac:=no (no .nil (no .nil (no (lf (.cells 4 (nd y9 (nd (.int .i64 (.ofNat 395)) (lf (.int .i64 (.ofNat 71))) .nil) (lf (.int .i64 (.ofNat 20)))))) .nil))) .nil
def gN:T AV:=nd (.int .i64 (.ofNat 0)) (lf (.int .i64 (.ofNat 71))) .nil
def ic:T Ac:=no (no .nil (no .nil (no (lf (.cells 4 (nd y9 (nd (.int .i64 (.ofNat 396)) (lf (.int .i64 (.ofNat 72))) .nil) (lf (.int .i64 (.ofNat 20)))))) .nil))) .nil
def kG:T Ac:=no .nil ic
def jJ:T Ac:=no (no .nil (no .nil (no (lf (.cells 4 (nd y9 (nd (.int .i64 (.ofNat 397)) (lf (.int .i64 (.ofNat 73))) .nil) (lf (.int .i64 (.ofNat 20)))))) .nil))) .nil
def mV:T Ac:=no .nil jJ
def oq:T AV:=nd (.int .i64 (.ofNat 0)) (lf (.int .i64 (.ofNat 73))) .nil
def iq:T Ac:=no .nil (no .nil (no (lf (.cells 4 (nd y9 (nd (.int .i64 (.ofNat 398)) (lf (.int .i64 (.ofNat 74))) .nil) (lf (.int .i64 (.ofNat 20)))))) .nil))
def fC:T Ac:=no iq .nil
def lw:T AV:=nd (.int .i64 (.ofNat 0)) (lf (.int .i64 (.ofNat 74))) .nil
def hU:T Ac:=no .nil (no .nil (no (lf (.cells 4 (nd y9 (nd (.int .i64 (.ofNat 399)) (lf (.int .i64 (.ofNat 75))) .nil) (lf (.int .i64 (.ofNat 20)))))) .nil))
def me:T Ac:=no .nil (no hU .nil)
def iD:T Ac:=no .nil (no (lf (.cells 4 (nd y9 (nd (.int .i64 (.ofNat 400)) (lf (.int .i64 (.ofNat 1))) .nil) (lf (.int .i64 (.ofNat 21)))))) .nil)
def kS:T Ac:=no .nil (no (no .nil iD) .nil)
def eu:T AV:=nd (.str 0 0) (lf (.int .i64 (.ofNat 21))) .nil
def f7:T Ac:=no .nil (no (lf (.cells 4 (nd y9 (nd (.int .i64 (.ofNat 401)) (lf (.int .i64 (.ofNat 2))) .nil) (lf (.int .i64 (.ofNat 21)))))) .nil)
def l5:T Ac:=no .nil (no (no .nil f7) .nil)
def lN:T Ac:=no .nil (no .nil (no (lf (.cells 4 (nd y9 (nd (.int .i64 (.ofNat 402)) (lf (.int .i64 (.ofNat 1))) .nil) (lf (.int .i64 (.ofNat 22)))))) .nil))
def kK:T Ac:=no .nil (no lN .nil)
def RF:T AV:=nd (.str 0 0) (lf (.int .i64 (.ofNat 22))) .nil
def gA:T Ac:=no .nil (no .nil (no (lf (.cells 4 (nd y9 (nd (.int .i64 (.ofNat 407)) (lf (.int .i64 (.ofNat 6))) .nil) (lf (.int .i64 (.ofNat 22)))))) .nil))
def jv:T Ac:=no .nil (no gA .nil)
def nR:T Ac:=no (no .nil (no .nil (no (lf (.cells 4 (nd y9 (nd (.int .i64 (.ofNat 408)) (lf (.int .i64 (.ofNat 7))) .nil) (lf (.int .i64 (.ofNat 22)))))) .nil))) .nil
def kC:T Ac:=no .nil nR
def Zj:T Ac:=no (no .nil (no .nil (no (lf (.cells 4 (nd y9 (nd (.int .i64 (.ofNat 414)) (lf (.int .i64 (.ofNat 13))) .nil) (lf (.int .i64 (.ofNat 22)))))) .nil))) .nil
def mT:T Ac:=no (no .nil (no .nil (no (lf (.cells 4 (nd y9 (nd (.int .i64 (.ofNat 415)) (lf (.int .i64 (.ofNat 14))) .nil) (lf (.int .i64 (.ofNat 22)))))) .nil))) .nil
def i4:T Ac:=no .nil mT
def kZ:T Ac:=no .nil (no .nil (no (lf (.cells 4 (nd y9 (nd (.int .i64 (.ofNat 416)) (lf (.int .i64 (.ofNat 1))) .nil) (lf (.int .i64 (.ofNat 23)))))) .nil))
def gG:T Ac:=no .nil (no kZ .nil)
def eQ:T AV:=nd (.int .i64 (.ofNat 1)) (lf (.str 2 11822)) .nil
def nh:T AV:=nd (.int .i64 (.ofNat 3)) (lf (.int .i64 (.ofNat 2))) .nil
def oc:T AV:=nd (.str 2 13873) (lf (.int .i64 (.ofNat 0))) .nil
def jD:T AV:=nd (.int .i64 (.ofNat 2)) (lf (.str 1 59)) .nil
def gS:T AV:=nd (.int .i64 (.ofNat 0)) jD (lf (.int .i64 (.ofNat 20)))
def ju:T AV:=nd (.int .i64 (.ofNat 9)) y97 (lf (.int .i64 (.ofNat 4)))
def oU:T AV:=nd (.int .i64 (.ofNat 1)) (lf (.str 1 59)) .nil
def j0:T AV:=nd (.int .i64 (.ofNat 1)) (lf (.str 1 58)) .nil
def nM:T AV:=nd (.int .i64 (.ofNat 9)) (lf (.int .i64 (.ofNat 1))) .nil
def gj:T AV:=nd (.int .i64 (.ofNat 20)) (lf (.int .i64 (.ofNat 4))) .nil
def oP:T AV:=nd (.int .i64 (.ofNat 4)) (lf (.str 1 53)) .nil
def gE:T AV:=nd (.int .i64 (.ofNat 16)) (lf (.int .i64 (.ofNat 20))) .nil
def ku:T AV:=nd (.str 1 48) (lf (.int .i64 (.ofNat 0))) .nil
def Vo:T AV:=nd (.int .i64 (.ofNat 9)) (lf (.int .i64 (.ofNat 4))) .nil
def oV:T AV:=nd (.int .i64 (.ofNat 4)) (lf (.str 1 52)) .nil
def eI:T AV:=nd (.int .i64 (.ofNat 0)) (nd (.int .i64 (.ofNat 4)) (lf (.str 1 125)) .nil) (lf (.int .i64 (.ofNat 20)))
def iS:T AV:=nd (.int .i64 (.ofNat 0)) (lf (.int .i64 (.ofNat 2))) (lf (.int .i64 (.ofNat 20)))
def gD:T AV:=nd (.str 4 1953393013) (lf (.int .i64 (.ofNat 0))) .nil
def mU:T Ac:=no .nil (no .nil (no (lf (.cells 625 (nd (.int .i64 (.ofNat 1)) (nd (.str 8 7813573208857080432) (nd (.int .i64 (.ofNat 1)) (nd (.int .i64 (.ofNat 0)) (nd (.int .i64 (.ofNat 1)) (nd (.str 4 1701603686) (nd (.int .i64 (.ofNat 3)) (nd (.int .i64 (.ofNat 0)) eQ (lf (.int .i64 (.ofNat 16)))) (nd (.str 3 3289397) nh (lf (.int .i64 (.ofNat 0))))) (nd (.int .i64 (.ofNat 4)) (nd (.int .i64 (.ofNat 27)) (nd (.int .i64 (.ofNat 65535)) (lf (.int .i64 (.ofNat 20))) .nil) (lf (.int .i64 (.ofNat 4)))) (nd (.int .i64 (.ofNat 9)) (nd (.str 1 59) (lf (.int .i64 (.ofNat 0))) .nil) (lf (.int .i64 (.ofNat 21)))))) (nd (.int .i64 (.ofNat 0)) (nd (.int .i64 (.ofNat 9)) (nd (.int .i64 (.ofNat 7)) oc (lf (.int .i64 (.ofNat 1)))) gS) (nd (.str 5 461229747266) (nd (.int .i64 (.ofNat 2)) (nd (.int .i64 (.ofNat 14)) (lf (.int .i64 (.ofNat 55))) .nil) (lf (.str 1 49))) (nd (.int .i64 (.ofNat 1)) OJ (lf (.int .i64 (.ofNat 1))))))) (nd (.int .i64 (.ofNat 2)) (nd (.int .i64 (.ofNat 7)) (nd (.str 1 58) (nd (.int .i64 (.ofNat 2)) (nd (.int .i64 (.ofNat 12)) (lf (.int .i64 (.ofNat 39))) .nil) (lf (.str 1 125))) (nd (.int .i64 (.ofNat 23)) y97 (lf (.int .i64 (.ofNat 4))))) (nd (.int .i64 (.ofNat 5)) (nd (.int .i64 (.ofNat 0)) (nd (.int .i64 (.ofNat 4)) (lf (.str 1 58)) .nil) (lf (.int .i64 (.ofNat 19)))) (nd (.str 1 59) (nd (.int .i64 (.ofNat 3)) (lf (.int .i64 (.ofNat 1))) .nil) (lf (.int .i64 (.ofNat 2)))))) (nd (.int .i64 (.ofNat 2)) (nd (.int .i64 (.ofNat 0)) (nd (.str 5 228492391734) (nd (.int .i64 (.ofNat 19)) (lf (.int .i64 (.ofNat 2))) .nil) (lf (.int .i64 (.ofNat 0)))) (nd (.int .i64 (.ofNat 4)) (nd (.int .i64 (.ofNat 15)) (lf (.int .i64 (.ofNat 73))) .nil) (lf (.str 1 123)))) (nd (.int .i64 (.ofNat 15)) (nd (.int .i64 (.ofNat 8)) (nd (.str 1 123) (lf (.int .i64 (.ofNat 5))) .nil) (lf (.int .i64 (.ofNat 16)))) (nd (.int .i64 (.ofNat 0)) (lf (.int .i64 (.ofNat 1))) (lf (.int .i64 (.ofNat 20)))))))) (nd (.str 1 59) (nd (.int .i64 (.ofNat 1)) (nd (.int .i64 (.ofNat 4)) (nd (.int .i64 (.ofNat 0)) (nd (.str 4 1953393013) nh (lf (.int .i64 (.ofNat 0)))) (nd (.int .i64 (.ofNat 4)) (nd (.int .i64 (.ofNat 15)) (lf (.int .i64 (.ofNat 63))) .nil) (lf (.str 4 2036625250)))) (nd (.int .i64 (.ofNat 23)) (nd (.int .i64 (.ofNat 8)) (nd (.str 1 59) (lf (.int .i64 (.ofNat 4))) .nil) (lf (.int .i64 (.ofNat 5)))) (nd (.int .i64 (.ofNat 0)) (nd (.int .i64 (.ofNat 1)) (lf (.str 5 500135195763)) .nil) (lf (.int .i64 (.ofNat 20)))))) (nd (.str 3 7889261) (nd (.int .i64 (.ofNat 4)) (nd (.int .i64 (.ofNat 0)) jD (lf (.int .i64 (.ofNat 18)))) (nd (.str 5 495623371106) (nd (.int .i64 (.ofNat 17)) (lf (.int .i64 (.ofNat 4))) .nil) (lf (.int .i64 (.ofNat 0))))) (nd (.int .i64 (.ofNat 4)) (nd (.int .i64 (.ofNat 14)) y97 (lf (.int .i64 (.ofNat 4)))) (nd (.int .i64 (.ofNat 11)) (lf (.str 1 48)) (lf (.int .i64 (.ofNat 27))))))) (nd (.int .i64 (.ofNat 0)) (nd (.int .i64 (.ofNat 3)) (nd (.int .i64 (.ofNat 1)) (nd (.int .i64 (.ofNat 16)) y97 (lf (.int .i64 (.ofNat 1)))) (nd (.int .i64 (.ofNat 9)) oc (lf (.int .i64 (.ofNat 7))))) (nd (.int .i64 (.ofNat 0)) (nd (.str 4 1953393013) (nd (.int .i64 (.ofNat 1)) (lf (.int .i64 (.ofNat 1))) .nil) (lf (.int .i64 (.ofNat 16)))) (nd (.int .i64 (.ofNat 4)) (nd (.int .i64 (.ofNat 16)) (lf (.int .i64 (.ofNat 7))) .nil) (lf (.str 1 58))))) (nd (.int .i64 (.ofNat 21)) (nd (.str 2 13873) (nd (.int .i64 (.ofNat 4)) (nd (.int .i64 (.ofNat 12)) (lf (.int .i64 (.ofNat 49))) .nil) (lf (.str 2 28783))) (nd (.int .i64 (.ofNat 15)) jr (lf (.int .i64 (.ofNat 2))))) (nd (.int .i64 (.ofNat 7)) (nd (.int .i64 (.ofNat 0)) eQ (lf (.int .i64 (.ofNat 19)))) (nd (.str 1 123) (lf (.int .i64 (.ofNat 19))) (lf (.int .i64 (.ofNat 3))))))))) (nd (.int .i64 (.ofNat 1)) (nd (.int .i64 (.ofNat 10)) (nd (.int .i64 (.ofNat 0)) (nd (.int .i64 (.ofNat 3)) (nd (.int .i64 (.ofNat 1)) ju (nd (.int .i64 (.ofNat 8)) (nd (.str 1 58) (lf (.int .i64 (.ofNat 5))) .nil) (lf (.int .i64 (.ofNat 19))))) (nd (.int .i64 (.ofNat 0)) (nd (.str 4 1702521203) (nd (.int .i64 (.ofNat 22)) (lf (.int .i64 (.ofNat 2))) .nil) (lf (.int .i64 (.ofNat 0)))) (nd (.int .i64 (.ofNat 4)) (nd (.int .i64 (.ofNat 15)) (lf (.int .i64 (.ofNat 1))) .nil) (lf (.str 2 11822))))) (nd (.int .i64 (.ofNat 15)) (nd (.str 1 48) (nd (.int .i64 (.ofNat 4)) (nd (.int .i64 (.ofNat 12)) (lf (.int .i64 (.ofNat 42))) .nil) (lf (.str 6 127978942194000))) (nd (.int .i64 (.ofNat 7)) y97 (lf (.int .i64 (.ofNat 1))))) (nd (.int .i64 (.ofNat 6)) (nd (.int .i64 (.ofNat 16)) oU (lf (.int .i64 (.ofNat 19)))) (nd (.str 7 28542640894207341) (lf (.int .i64 (.ofNat 11))) (lf (.int .i64 (.ofNat 0))))))) (nd (.int .i64 (.ofNat 4)) (nd (.str 5 465625706101) (nd (.int .i64 (.ofNat 4)) (nd (.int .i64 (.ofNat 16)) j0 (lf (.int .i64 (.ofNat 17)))) (nd (.str 4 1635017060) nM (lf (.int .i64 (.ofNat 0))))) (nd (.int .i64 (.ofNat 1)) (nd (.int .i64 (.ofNat 7)) y97 (lf (.int .i64 (.ofNat 2)))) (nd (.int .i64 (.ofNat 9)) (nd (.str 1 58) (lf (.int .i64 (.ofNat 0))) .nil) (lf (.int .i64 (.ofNat 24)))))) (nd (.int .i64 (.ofNat 128)) (nd (.int .i64 (.ofNat 17)) (nd (.int .i64 (.ofNat 7)) (nd (.str 2 11822) (lf (.int .i64 (.ofNat 4))) .nil) (lf (.int .i64 (.ofNat 16)))) gS) (nd (.str 6 125779768604014) (nd (.int .i64 (.ofNat 4)) (nd (.int .i64 (.ofNat 14)) (lf (.int .i64 (.ofNat 60))) .nil) (lf (.str 1 53))) (nd (.int .i64 (.ofNat 9)) (lf (.int .i64 (.ofNat 0))) (lf (.int .i64 (.ofNat 2)))))))) (nd (.int .i64 (.ofNat 1)) (nd (.str 7 32777976897693010) (nd (.int .i64 (.ofNat 0)) (nd (.int .i64 (.ofNat 3)) (nd (.int .i64 (.ofNat 7)) (nd (.str 1 58) (lf (.int .i64 (.ofNat 3))) .nil) (lf (.int .i64 (.ofNat 26)))) (nd (.int .i64 (.ofNat 0)) j0 (lf (.int .i64 (.ofNat 20))))) (nd (.str 1 125) (nd (.int .i64 (.ofNat 4)) (nd (.int .i64 (.ofNat 12)) (lf (.int .i64 (.ofNat 52))) .nil) (lf (.str 4 1953393013))) (nd (.int .i64 (.ofNat 20)) OJ (lf (.int .i64 (.ofNat 2)))))) (nd (.int .i64 (.ofNat 3)) (nd (.int .i64 (.ofNat 1)) (nd (.int .i64 (.ofNat 20)) y97 (lf (.int .i64 (.ofNat 4)))) (nd (.int .i64 (.ofNat 9)) (nd (.str 2 11822) (lf (.int .i64 (.ofNat 0))) .nil) (lf (.int .i64 (.ofNat 16))))) (nd (.int .i64 (.ofNat 0)) (nd (.str 1 48) (nd (.int .i64 (.ofNat 9)) (lf (.int .i64 (.ofNat 2))) .nil) (lf (.int .i64 (.ofNat 0)))) (nd (.int .i64 (.ofNat 1)) (lf (.int .i64 (.ofNat 16))) (lf (.str 1 59)))))) (nd (.int .i64 (.ofNat 17)) (nd (.int .i64 (.ofNat 2)) (nd (.int .i64 (.ofNat 0)) (nd (.str 1 48) (nd (.int .i64 (.ofNat 11)) (lf (.int .i64 (.ofNat 1))) .nil) (lf (.int .i64 (.ofNat 0)))) (nd (.int .i64 (.ofNat 4)) (nd (.int .i64 (.ofNat 15)) (lf (.int .i64 (.ofNat 66))) .nil) (lf (.str 6 111477645076579)))) (nd (.int .i64 (.ofNat 1)) (nd (.int .i64 (.ofNat 8)) (nd (.str 7 28542640894207341) (lf (.int .i64 (.ofNat 0))) .nil) (lf (.int .i64 (.ofNat 12)))) (nd (.int .i64 (.ofNat 0)) oU (lf (.int .i64 (.ofNat 20)))))) (nd (.str 1 59) (nd (.int .i64 (.ofNat 4)) (nd (.int .i64 (.ofNat 0)) (nd (.int .i64 (.ofNat 2)) (lf (.str 2 11822)) .nil) (lf (.int .i64 (.ofNat 19)))) (nd (.str 4 1702521203) gj (lf (.int .i64 (.ofNat 1))))) (nd (.int .i64 (.ofNat 4)) (nd (.int .i64 (.ofNat 18)) y97 (lf (.int .i64 (.ofNat 4)))) (nd (.int .i64 (.ofNat 11)) (lf (.str 3 3158066)) (lf (.int .i64 (.ofNat 36)))))))))) (nd (.int .i64 (.ofNat 0)) (nd (.int .i64 (.ofNat 1)) (nd (.int .i64 (.ofNat 1)) (nd (.str 7 28542640894207341) (nd (.int .i64 (.ofNat 0)) (nd (.int .i64 (.ofNat 24)) (nd (.int .i64 (.ofNat 7)) (nd (.str 6 125779768604014) (lf (.int .i64 (.ofNat 0))) .nil) (lf (.int .i64 (.ofNat 23)))) (nd (.int .i64 (.ofNat 512)) oP (lf (.int .i64 (.ofNat 19))))) (nd (.str 1 59) (nd (.int .i64 (.ofNat 1)) (nd (.int .i64 (.ofNat 12)) (lf (.int .i64 (.ofNat 50))) .nil) (lf (.str 1 58))) (nd (.int .i64 (.ofNat 16)) y24 (lf (.int .i64 (.ofNat 4)))))) (nd (.int .i64 (.ofNat 3)) (nd (.int .i64 (.ofNat 2)) (nd (.int .i64 (.ofNat 19)) gE (lf (.int .i64 (.ofNat 1)))) (nd (.int .i64 (.ofNat 9)) ku (lf (.int .i64 (.ofNat 9))))) (nd (.int .i64 (.ofNat 0)) (nd (.str 2 13873) (nd (.int .i64 (.ofNat 1)) (lf (.int .i64 (.ofNat 4))) .nil) (lf (.int .i64 (.ofNat 1)))) (nd (.int .i64 (.ofNat 1)) (nd (.int .i64 (.ofNat 16)) (lf (.int .i64 (.ofNat 13))) .nil) (lf (.str 7 32777976897693010)))))) (nd (.int .i64 (.ofNat 9)) (nd (.int .i64 (.ofNat 1)) (nd (.int .i64 (.ofNat 0)) (nd (.str 2 13873) Vo (lf (.int .i64 (.ofNat 0)))) (nd (.int .i64 (.ofNat 1)) (nd (.int .i64 (.ofNat 15)) (lf (.int .i64 (.ofNat 64))) .nil) (lf (.str 1 58)))) (nd (.int .i64 (.ofNat 1)) (nd (.int .i64 (.ofNat 8)) (nd (.str 1 125) (lf (.int .i64 (.ofNat 0))) .nil) (lf (.int .i64 (.ofNat 7)))) (nd (.int .i64 (.ofNat 0)) (nd (.int .i64 (.ofNat 4)) (lf (.str 6 127978942194000)) .nil) (lf (.int .i64 (.ofNat 20)))))) (nd (.str 3 3682865) (nd (.int .i64 (.ofNat 4)) (nd (.int .i64 (.ofNat 65535)) oV (lf (.int .i64 (.ofNat 18)))) (nd (.str 1 91) (nd (.int .i64 (.ofNat 18)) (lf (.int .i64 (.ofNat 4))) .nil) (lf (.int .i64 (.ofNat 0))))) (nd (.int .i64 (.ofNat 1)) (nd (.int .i64 (.ofNat 17)) y97 (lf (.int .i64 (.ofNat 2)))) (nd (.int .i64 (.ofNat 11)) (lf (.str 3 7889261)) (lf (.int .i64 (.ofNat 34)))))))) (nd (.int .i64 (.ofNat 0)) (nd (.int .i64 (.ofNat 1)) (nd (.str 1 58) (nd (.int .i64 (.ofNat 4)) (nd (.int .i64 (.ofNat 0)) (nd (.int .i64 (.ofNat 4)) (lf (.str 1 51)) .nil) (lf (.int .i64 (.ofNat 16)))) (nd (.str 1 59) (nd (.int .i64 (.ofNat 7)) (lf (.int .i64 (.ofNat 4))) .nil) (lf (.int .i64 (.ofNat 0))))) (nd (.int .i64 (.ofNat 4)) (nd (.int .i64 (.ofNat 3)) y97 (lf (.int .i64 (.ofNat 1)))) (nd (.int .i64 (.ofNat 9)) (nd (.str 6 121424956188018) (lf (.int .i64 (.ofNat 0))) .nil) (lf (.int .i64 (.ofNat 22)))))) (nd (.int .i64 (.ofNat 0)) (nd (.int .i64 (.ofNat 15)) (nd (.int .i64 (.ofNat 7)) ku (lf (.int .i64 (.ofNat 9)))) eI) (nd (.str 1 123) (nd (.int .i64 (.ofNat 2)) (nd (.int .i64 (.ofNat 14)) (lf (.int .i64 (.ofNat 58))) .nil) (lf (.str 2 11822))) (nd (.int .i64 (.ofNat 1)) (lf (.int .i64 (.ofNat 0))) (lf (.int .i64 (.ofNat 4))))))) (nd (.int .i64 (.ofNat 2)) (nd (.int .i64 (.ofNat 9)) (nd (.str 5 465625706101) (nd (.int .i64 (.ofNat 2)) (nd (.int .i64 (.ofNat 12)) (lf (.int .i64 (.ofNat 40))) .nil) (lf (.str 7 28542640894207341))) (nd (.int .i64 (.ofNat 3)) gE (lf (.int .i64 (.ofNat 1))))) (nd (.int .i64 (.ofNat 6)) (nd (.int .i64 (.ofNat 0)) (nd (.int .i64 (.ofNat 1)) (lf (.str 3 7037761)) .nil) (lf (.int .i64 (.ofNat 19)))) (nd (.str 1 125) Vo (lf (.int .i64 (.ofNat 0)))))) (nd (.int .i64 (.ofNat 4)) (nd (.int .i64 (.ofNat 16)) (nd (.str 1 59) gj (lf (.int .i64 (.ofNat 0)))) (nd (.int .i64 (.ofNat 1)) (nd (.int .i64 (.ofNat 15)) (lf (.int .i64 (.ofNat 74))) .nil) (lf (.str 1 49)))) (nd (.int .i64 (.ofNat 3)) (nd (.int .i64 (.ofNat 8)) (nd (.str 4 1701080931) (lf (.int .i64 (.ofNat 0))) .nil) (lf (.int .i64 (.ofNat 18)))) iS))))) (nd (.str 5 495622842726) (nd (.int .i64 (.ofNat 4)) (nd (.int .i64 (.ofNat 2)) (nd (.int .i64 (.ofNat 3)) (nd (.str 4 1701080941) (nd (.int .i64 (.ofNat 1)) (nd (.int .i64 (.ofNat 12)) (lf (.int .i64 (.ofNat 37))) .nil) (lf (.str 1 59))) (nd (.int .i64 (.ofNat 20)) y97 (lf (.int .i64 (.ofNat 1))))) (nd (.int .i64 (.ofNat 4)) (nd (.int .i64 (.ofNat 0)) oV (lf (.int .i64 (.ofNat 19)))) (nd (.str 1 93) (nd (.int .i64 (.ofNat 21)) (lf (.int .i64 (.ofNat 1))) .nil) (lf (.int .i64 (.ofNat 0)))))) (nd (.int .i64 (.ofNat 1)) (nd (.int .i64 (.ofNat 0)) (nd (.str 2 11822) (nd (.int .i64 (.ofNat 16)) (lf (.int .i64 (.ofNat 4))) .nil) (lf (.int .i64 (.ofNat 0)))) (nd (.int .i64 (.ofNat 1)) (nd (.int .i64 (.ofNat 15)) (lf (.int .i64 (.ofNat 71))) .nil) (lf (.str 2 28783)))) (nd (.int .i64 (.ofNat 9)) (nd (.int .i64 (.ofNat 8)) (nd (.str 5 500035838278) (lf (.int .i64 (.ofNat 0))) .nil) (lf (.int .i64 (.ofNat 15)))) iS))) (nd (.str 1 123) (nd (.int .i64 (.ofNat 0)) (nd (.int .i64 (.ofNat 7)) (nd (.int .i64 (.ofNat 7)) gD (lf (.int .i64 (.ofNat 1)))) (nd (.int .i64 (.ofNat 0)) (nd (.int .i64 (.ofNat 2)) (lf (.str 5 500035838278)) .nil) (lf (.int .i64 (.ofNat 20))))) (nd (.str 7 28542640894207341) (nd (.int .i64 (.ofNat 1)) (nd (.int .i64 (.ofNat 13)) (lf (.int .i64 (.ofNat 53))) .nil) (lf (.str 2 13873))) (nd (.int .i64 (.ofNat 21)) OJ (lf (.int .i64 (.ofNat 4)))))) (nd (.int .i64 (.ofNat 3)) (nd (.int .i64 (.ofNat 2)) (nd (.int .i64 (.ofNat 22)) y97 (lf (.int .i64 (.ofNat 1)))) (nd (.int .i64 (.ofNat 9)) (nd (.str 1 56) (lf (.int .i64 (.ofNat 0))) .nil) (lf (.int .i64 (.ofNat 19))))) (nd (.int .i64 (.ofNat 0)) (nd (.str 2 11822) (nd (.int .i64 (.ofNat 15)) (lf (.int .i64 (.ofNat 4))) .nil) (lf (.int .i64 (.ofNat 5)))) (nd (.int .i64 (.ofNat 4)) (lf (.int .i64 (.ofNat 16))) (lf (.str 1 51))))))) (nd (.int .i64 (.ofNat 15)) (nd (.int .i64 (.ofNat 0)) (nd (.int .i64 (.ofNat 3)) (nd (.int .i64 (.ofNat 4)) (nd (.int .i64 (.ofNat 11)) y97 (lf (.int .i64 (.ofNat 4)))) (nd (.int .i64 (.ofNat 8)) gD (lf (.int .i64 (.ofNat 3))))) (nd (.int .i64 (.ofNat 0)) (nd (.str 1 58) (nd (.int .i64 (.ofNat 27)) (lf (.int .i64 (.ofNat 4))) .nil) (lf (.int .i64 (.ofNat 0)))) (nd (.int .i64 (.ofNat 4)) (nd (.int .i64 (.ofNat 16)) (lf (.int .i64 (.ofNat 1))) .nil) (lf (.str 1 50))))) (nd (.int .i64 (.ofNat 17)) (nd (.str 3 7889261) (nd (.int .i64 (.ofNat 2)) (nd (.int .i64 (.ofNat 12)) (lf (.int .i64 (.ofNat 47))) .nil) (lf (.str 1 123))) ju) (nd (.int .i64 (.ofNat 6)) (nd (.int .i64 (.ofNat 0)) oP (lf (.int .i64 (.ofNat 19)))) (nd (.str 3 7037761) (lf (.int .i64 (.ofNat 17))) (lf (.int .i64 (.ofNat 0))))))) (nd (.int .i64 (.ofNat 1)) (nd (.str 1 48) (nd (.int .i64 (.ofNat 4)) (nd (.int .i64 (.ofNat 0)) (nd (.int .i64 (.ofNat 2)) (lf (.str 5 461229747266)) .nil) (lf (.int .i64 (.ofNat 18)))) (nd (.str 1 58) (nd (.int .i64 (.ofNat 14)) (lf (.int .i64 (.ofNat 4))) .nil) (lf (.int .i64 (.ofNat 0))))) (nd (.int .i64 (.ofNat 1)) (nd (.int .i64 (.ofNat 9)) y97 (lf (.int .i64 (.ofNat 2)))) (nd (.int .i64 (.ofNat 10)) (nd (.str 5 465625706101) (lf (.int .i64 (.ofNat 0))) .nil) (lf (.int .i64 (.ofNat 25)))))) (nd (.int .i64 (.ofNat 0)) (nd (.int .i64 (.ofNat 21)) (nd (.int .i64 (.ofNat 7)) (nd (.str 5 228492391734) (lf (.int .i64 (.ofNat 0))) .nil) (lf (.int .i64 (.ofNat 3)))) eI) (nd (.str 1 58) (nd (.int .i64 (.ofNat 2)) (nd (.int .i64 (.ofNat 15)) (lf (.int .i64 (.ofNat 61))) .nil) (lf (.str 1 59))) (nd (.int .i64 (.ofNat 13)) (lf (.int .i64 (.ofNat 200))) (lf (.int .i64 (.ofNat 4))))))))))))) .nil))
def Vi:T Ac:=no .nil (no .nil (no mU .nil))
def QZ:T AV:=nd (.int .i64 (.ofNat 10)) (lf (.int .i64 (.ofNat 0))) (lf (.int .i64 (.ofNat 0)))
def Rk:T AV:=nd (.int .i64 (.negSucc 0)) (lf (.str 0 0)) .nil
def Rz:T AV:=nd (.int .i64 (.ofNat 1)) (nd (.str 5 495622842726) (lf (.int .i64 (.ofNat 0))) .nil) (nd (.int .i64 (.negSucc 0)) (lf (.int .i64 (.ofNat 0))) .nil)
def jF:T Ac:=no (no .nil (no .nil (no .nil (no (lf (.cells 1 (lf (.ptr 735 0)))) .nil)))) .nil
def Q3:T AV:=nd .slice0 (lf (.int .i64 (.ofNat 0))) .nil
def dO:T AV:=nd (.str 0 0) (lf (.str 0 0)) .nil
def aC:T AV:=nd (.int .i64 (.ofNat 1)) (lf (.int .i64 (.ofNat 0))) .nil
def QX:T AV:=nd (.int .i64 (.ofNat 0)) (lf (.int .i64 (.ofNat 0))) .nil
def eN:T Ac:=no .nil (no (no .nil (no (no (lf (.cells 45 (nd (.str 6 125779768604014) (nd (.int .i64 (.ofNat 1)) (nd (.bool false) (nd (.int .i64 (.ofNat 0)) (nd (.str 4 1702521203) (lf (.int .i64 (.ofNat 4))) .nil) (nd .slice0 (lf (.str 0 0)) .nil)) (nd (.str 0 0) (nd (.bool false) (lf (.int .i64 (.ofNat 0))) .nil) Q3)) (nd (.int .i64 (.ofNat 0)) (nd (.str 0 0) (nd (.int .i64 (.ofNat 16)) (lf (.bool false)) .nil) dO) (nd (.int .i64 (.ofNat 0)) (nd (.int .i64 (.ofNat 512)) (lf (.int .i64 (.ofNat 0))) .nil) (lf (.int .i64 (.ofNat 0)))))) (nd (.int .i64 (.ofNat 16)) (nd (.bool false) (nd .slice0 aC dO) (nd .slice0 QX QX)) (nd (.int .i64 (.ofNat 65535)) (nd (.str 0 0) (nd (.bool false) (lf (.bool false)) .nil) (nd (.str 0 0) (lf .slice0) .nil)) (nd (.int .i64 (.ofNat 0)) (nd (.int .i64 (.ofNat 0)) (lf (.slice 1184 0 1 2)) .nil) (lf (.str 4 1635017060)))))))) .nil) .nil)) .nil)
def gt:T Ac:=no (no (no .nil (no (no .nil (no (no (lf (.cells 2 (nd (.str 4 1702521203) (lf (.int .i64 (.ofNat 1))) .nil))) .nil) .nil)) .nil)) .nil) .nil
def Xw:T Ac:=no gt .nil
def eB:T AV:=nd (.int .i64 (.ofNat 1)) (lf (.int .i64 (.ofNat 2))) .nil
def jL:T AV:=nd (.int .i64 (.ofNat 6)) (lf (.int .i64 (.ofNat 3))) (lf (.str 5 500035838278))
def mS:T AV:=nd (.str 5 461229747266) (lf (.int .i64 (.ofNat 1))) (lf (.int .i64 (.negSucc 0)))
def eC:T AV:=nd (.int .i64 (.ofNat 3)) (lf (.str 3 7037761)) .nil
def mC:T AV:=nd (.int .i64 (.ofNat 1)) (lf (.int .i64 (.ofNat 14))) .nil
def ix:T AV:=nd (.int .i64 (.ofNat 9)) (lf (.str 4 1635017060)) (lf (.int .i64 (.ofNat 3)))
def eY:T AV:=nd (.int .i64 (.ofNat 9)) (lf (.int .i64 (.ofNat 9))) .nil
def jj:T Ac:=no (no jF .nil) .nil
def ew:T AV:=nd (.int .i64 (.ofNat 1)) (lf (.int .i64 (.negSucc 0))) (lf (.int .i64 (.ofNat 16)))
def gn:T AV:=nd (.str 4 1702521203) (lf (.int .i64 (.ofNat 2))) (lf (.int .i64 (.ofNat 1)))
def jc:T AV:=nd (.int .i64 (.ofNat 3)) (nd (.int .i64 (.negSucc 0)) (lf (.int .i64 (.ofNat 11))) (lf (.int .i64 (.ofNat 3)))) gn
def pr:T AV:=nd (.int .i64 (.ofNat 0)) mS (nd (.int .i64 (.ofNat 8)) (lf (.int .i64 (.ofNat 3))) (lf (.str 6 121424956188018)))
def eZ:T AV:=nd (.int .i64 (.ofNat 3)) (lf (.str 3 7037761)) (lf (.int .i64 (.ofNat 3)))
def nw:T AV:=nd (.int .i64 (.ofNat 0)) (lf (.int .i64 (.ofNat 12))) (lf (.int .i64 (.ofNat 3)))
def lL:T AV:=nd (.int .i64 (.ofNat 7)) (lf (.int .i64 (.ofNat 9))) (lf (.str 4 1701080931))
def eX:T AV:=nd (.int .i64 (.ofNat 4)) (nd (.int .i64 (.ofNat 1)) (lf (.int .i64 (.ofNat 2))) (lf (.int .i64 (.ofNat 15)))) (nd (.int .i64 (.ofNat 3)) (lf (.str 6 125779768604014)) (lf (.int .i64 (.ofNat 3))))
def iz:T AV:=nd (.str 6 125779768604014) (lf (.int .i64 (.ofNat 2))) (lf (.int .i64 (.ofNat 0)))
def nb:T AV:=nd (.str 0 0) (lf (.bool false)) (lf .slice0)
def mf:T AV:=nd (.str 0 0) (lf (.int .i64 (.ofNat 0))) (lf (.str 0 0))
def fY:T AV:=nd .slice0 (lf (.int .i64 (.ofNat 0))) (lf (.int .i64 (.ofNat 0)))
def g8:T AV:=nd (.bool false) (nd .slice0 (lf (.int .i64 (.ofNat 5))) (lf (.str 0 0))) fY
def Yj:T AV:=nd (.str 0 0) (lf (.bool false)) (lf (.str 0 0))
def nX:T Ac:=no (no .nil (no .nil (no .nil (no (lf (.cells 30 (nd (.str 4 1701080931) (nd (.int .i64 (.ofNat 1)) (nd (.bool false) (nd (.int .i64 (.ofNat 0)) (lf (.str 6 121424956188018)) (lf .slice0)) nb) (nd (.int .i64 (.ofNat 0)) mf (nd (.int .i64 (.ofNat 0)) (lf (.int .i64 (.ofNat 200))) (lf (.int .i64 (.ofNat 0)))))) (nd (.int .i64 (.ofNat 16)) g8 (nd (.int .i64 (.ofNat 8)) Yj QX))))) .nil)))) .nil
def oG:T AV:=nd (.int .i64 (.ofNat 3)) (lf (.int .i64 (.ofNat 4))) .nil
def hJ:T AV:=nd (.int .i64 (.ofNat 6)) oG (lf (.str 5 500035838278))
def jB:T AV:=nd (.int .i64 (.ofNat 1)) (lf (.int .i64 (.ofNat 14))) (lf (.int .i64 (.ofNat 9)))
def j5:T AV:=nd (.int .i64 (.ofNat 9)) (nd (.str 4 1635017060) (lf (.int .i64 (.negSucc 0))) .nil) (lf (.int .i64 (.ofNat 3)))
def d5:T AV:=nd (.int .i64 (.ofNat 1)) (lf (.int .i64 (.ofNat 0))) (lf (.int .i64 (.ofNat 18)))
def nC:T AV:=nd (.int .i64 (.ofNat 9)) (lf (.int .i64 (.ofNat 9))) (lf (.str 6 127978942194000))
def WM:T AV:=nd (.int .i64 (.ofNat 0)) (lf (.int .i64 (.ofNat 0))) (lf (.int .i64 (.ofNat 0)))
def bJ:T Ac:=no .nil (no (no (no .nil (no .nil (lf (.cells 30 (nd (.str 2 28783) (nd (.int .i64 (.ofNat 1)) (nd (.bool false) (nd (.int .i64 (.ofNat 0)) (lf (.str 4 2036625250)) (lf .slice0)) (nd (.str 0 0) (lf (.bool false)) (lf (.slice 1821 0 4 3)))) (nd (.int .i64 (.ofNat 1)) (nd (.str 0 0) (lf (.int .i64 (.ofNat 0))) (lf (.str 2 28783))) WM)) (nd (.int .i64 (.ofNat 16)) (nd (.bool false) (nd .slice0 (lf (.int .i64 (.ofNat 9))) (lf (.str 0 0))) fY) (nd (.int .i64 (.ofNat 5)) Yj QX))))))) .nil) .nil)
def e9:T Ac:=no .nil (no (no .nil (no (no (no .nil (lf (.cells 75 (nd (.int .i64 (.ofNat 2)) (nd (.int .i64 (.ofNat 9)) (nd (.int .i64 (.ofNat 0)) (nd (.str 4 1701603686) hJ (nd (.int .i64 (.ofNat 1)) (nd (.int .i64 (.negSucc 0)) (lf (.int .i64 (.ofNat 3))) .nil) (lf (.int .i64 (.ofNat 16))))) (nd (.int .i64 (.ofNat 3)) (nd (.int .i64 (.negSucc 0)) (nd (.int .i64 (.ofNat 11)) (lf (.str 2 28783)) .nil) (lf (.int .i64 (.ofNat 3)))) gn)) (nd (.int .i64 (.ofNat 3)) (nd (.int .i64 (.ofNat 0)) (nd (.str 5 461229747266) (nd (.int .i64 (.ofNat 1)) (lf (.int .i64 (.ofNat 19))) .nil) (lf (.int .i64 (.negSucc 0)))) (nd (.int .i64 (.ofNat 8)) oG (lf (.str 6 121424956188018)))) (nd (.int .i64 (.ofNat 0)) (nd (.int .i64 (.ofNat 3)) (nd (.str 3 7037761) (lf (.int .i64 (.ofNat 0))) .nil) (lf (.int .i64 (.ofNat 3)))) jB))) (nd (.str 7 32777976897693010) (nd (.int .i64 (.negSucc 0)) (nd (.int .i64 (.ofNat 0)) j5 (nd (.int .i64 (.ofNat 0)) (nd (.int .i64 (.ofNat 12)) (lf (.str 4 2036625250)) .nil) (lf (.int .i64 (.ofNat 3))))) (nd (.str 4 1701080941) (nd (.int .i64 (.ofNat 7)) Vo (lf (.str 4 1701080931))) d5)) (nd (.int .i64 (.ofNat 3)) (nd (.int .i64 (.ofNat 4)) (nd (.int .i64 (.ofNat 1)) (nd (.int .i64 (.ofNat 2)) (lf (.int .i64 (.ofNat 3))) .nil) (lf (.int .i64 (.ofNat 15)))) (nd (.int .i64 (.ofNat 3)) (nd (.str 6 125779768604014) (lf (.int .i64 (.ofNat 1))) .nil) (lf (.int .i64 (.ofNat 3))))) (nd (.int .i64 (.ofNat 1)) (nd (.str 6 125779768604014) (nd (.int .i64 (.ofNat 2)) (lf (.int .i64 (.ofNat 20))) .nil) (lf (.int .i64 (.ofNat 0)))) nC))))))) .nil) .nil)) .nil)
def lZ:T Ac:=no (no (no (no .nil (no .nil (lf (.cells 12 (nd (.int .i64 (.ofNat 1)) (nd (.int .i64 (.ofNat 2)) (nd (.int .i64 (.ofNat 3)) (lf (.int .i64 (.ofNat 4))) (lf (.str 5 500035838278))) (nd (.str 5 461229747266) (lf (.int .i64 (.ofNat 5))) .nil)) (nd (.str 7 32777976897693010) eC (nd (.int .i64 (.ofNat 4)) (lf (.int .i64 (.ofNat 5))) .nil))))))) .nil) .nil) .nil
def fU:T Ac:=no .nil (no (no (no .nil (no .nil (lf (.cells 30 (nd (.str 4 1701603686) (nd (.int .i64 (.ofNat 5)) (nd (.bool false) (nd (.int .i64 (.ofNat 0)) (lf (.str 4 1701080941)) (lf .slice0)) nb) (nd (.int .i64 (.ofNat 0)) mf (nd (.int .i64 (.ofNat 0)) (lf (.int .i64 (.ofNat 16))) (lf (.int .i64 (.ofNat 0)))))) (nd (.int .i64 (.ofNat 0)) g8 (nd (.int .i64 (.ofNat 128)) Yj QX))))))) .nil) .nil)
def jZ:T Ac:=no eN lZ
def mY:T Ac:=no .nil (no .nil jZ)
def aY:T Ac:=no (no (no (no .nil (no (no .nil (no .nil (lf (.cells 10 (nd (.str 7 32777976897693010) (nd (.slice 915 0 2 15) (nd (.slice 1197 0 3 15) (lf (.slice 1490 0 2 15)) .nil) (nd (.slice 1310 0 1 15) (lf (.slice 1839 0 2 15)) .nil)) (nd (.str 5 461229747266) (nd (.str 3 7037761) (lf (.str 6 127978942194000)) .nil) (lf (.str 5 500035838278)))))))) .nil)) .nil) nX) .nil
def iK:T Ac:=no (no .nil (no (lf (.cells 15 (nd (.str 6 125779768604014) (nd (.int .i64 (.ofNat 1)) (nd (.bool false) (lf (.int .i64 (.ofNat 0))) (lf (.str 0 0))) (nd (.int .i64 (.ofNat 0)) (lf (.str 0 0)) (lf (.int .i64 (.ofNat 0))))) (nd (.int .i64 (.ofNat 16)) (nd (.bool false) (lf .slice0) (lf .slice0)) (nd (.int .i64 (.ofNat 65535)) (lf (.str 0 0)) (lf (.int .i64 (.ofNat 0)))))))) .nil)) .nil
def oH:T Ac:=no (no (no .nil bJ) .nil) (no fU .nil)
def lU:T Ac:=no .nil (no (no iK .nil) .nil)
def dZ:T Ac:=no (no .nil (no .nil (no .nil (no (no (no (lf (.cells 14 (nd (.str 24 1229098986481109979246760173774879750559860365092310967667) (nd (.str 11 122570967502344540451008370) (nd (.str 15 562744202170581634498970250853315699) (lf (.str 30 789533352409273375229327438859413721772607407619008601618563932820436083)) (lf (.str 37 50422771405094346315967137660349769906106814241767673640040480709312337762094589791270003))) (nd (.str 33 13246171592574499840092527255662415629440327117341997935721940405941934907290739) (lf (.str 16 144062515755668893821575039809493234803)) (lf (.str 34 3005431378191372527273977002375776235204169338404008514957186817986463882916754547)))) (nd (.str 15 265464928953869816130873558310416227) (nd (.str 10 521331526989781162620019) (lf (.str 11 138296484283042423840206706)) (lf (.str 37 50422771405094346233577961052706535100125123613423833869086332475582389266494340609700979))) (nd (.str 51 126855000315515036779351538493944184116636336978109858067731874654657623036564341789607337409718587076950303785330640516211) (lf (.str 10 479143318045624222446707)) .nil))))) .nil) .nil) .nil)))) .nil
def jd:T Ac:=no (no (no .nil (no (no (lf (.cells 6 (nd (.str 4 1885697139) (nd (.str 4 1852141647) (lf (.str 4 1684956531)) (lf (.str 6 125779919729250))) (nd (.str 3 6710863) (lf (.str 4 1735289168)) .nil)))) .nil) .nil)) .nil) .nil
def jG:T Ac:=no .nil (no (no dZ (no .nil (no jd .nil))) .nil)
def pB:T Ac:=no (no (no .nil (no .nil (no .nil (no (no (no (lf (.cells 3 (nd (.slice 2273 0 14 1) (lf (.int .i64 (.ofNat 8))) (lf (.slice 2329 6 0 1))))) .nil) .nil) .nil)))) .nil) .nil
def n8:T Ac:=no .nil (no pB .nil)
def mo:T AV:=nd (.int .i64 (.ofNat 0)) (lf (.bool false)) .nil
def oB:T Ac:=no .nil (no .nil (no (no (no (lf (.cells 6 (nd (.str 3 6710863) (nd (.bool true) (lf (.str 4 1852141647)) (lf (.int .i64 (.ofNat 0)))) mo))) .nil) .nil) .nil))
def m4:T AV:=nd (.int .i64 (.ofNat 0)) (lf (.int .i64 (.ofNat 0))) (lf (.str 0 0))
def XS:T Ac:=no (no (no .nil (no (no (no .nil (no (no (lf (.cells 27 (nd (.str 3 6710863) (nd (.str 4 1852141647) (nd (.str 7 32760384594014019) m4 (nd (.int .i64 (.ofNat 1)) (lf (.str 3 6710863)) .nil)) (nd (.str 0 0) (nd (.str 4 1852141647) (lf (.int .i64 (.ofNat 1))) (lf (.int .i64 (.ofNat 0)))) (nd (.str 6 125779919729250) (lf (.str 4 1735289168)) .nil))) (nd (.int .i64 (.ofNat 1)) (nd (.str 6 125779919729250) (nd (.int .i64 (.ofNat 0)) (lf (.int .i64 (.ofNat 2))) (lf (.int .i64 (.ofNat 0)))) (nd (.str 7 29400294205060432) (lf (.int .i64 (.ofNat 1))) .nil)) (nd (.int .i64 (.ofNat 0)) (nd (.str 4 1852141647) (lf (.str 4 1852141647)) (lf (.int .i64 (.ofNat 0)))) (nd (.str 5 474450192499) (lf (.str 6 125779919729250)) .nil)))))) .nil) .nil)) .nil) .nil)) .nil) .nil
def l3:T Ac:=no .nil (no .nil (no .nil (no (no (no (lf (.cells 2 (nd (.str 5 474450192499) (lf (.int .i64 (.ofNat 3))) .nil))) .nil) .nil) .nil)))
def f5:T Ac:=no .nil (no .nil (no (no (no .nil (no (no (lf (.cells 6 (nd (.str 4 1701602377) (nd (.bool true) (lf (.str 4 1702259020)) (lf (.int .i64 (.ofNat 0)))) mo))) .nil) .nil)) .nil) .nil))
def mt:T Ac:=no (no .nil (no (no .nil (no (no (lf (.cells 27 (nd (.str 4 1701602377) (nd (.str 4 1702259020) (nd (.str 7 32760384594014019) m4 (nd (.int .i64 (.ofNat 2)) (lf (.str 4 1701602377)) .nil)) (nd (.str 0 0) (nd (.str 4 1702259020) (lf (.int .i64 (.ofNat 0))) (lf (.int .i64 (.ofNat 0)))) (nd (.str 6 111477645534564) (lf (.str 4 1735289168)) .nil))) (nd (.int .i64 (.ofNat 2)) (nd (.str 6 111477645534564) WM (nd (.str 7 29400294205060432) (lf (.int .i64 (.ofNat 2))) .nil)) (nd (.int .i64 (.ofNat 0)) (nd (.str 4 1702259020) (lf (.str 4 1702259020)) (lf (.int .i64 (.ofNat 0)))) (nd (.str 0 0) (lf (.str 6 111477645534564)) .nil)))))) .nil) .nil)) .nil)) .nil
def de:T Ac:=no .nil (no .nil oB)
def ki:T Ac:=no (no (no (no .nil (no .nil (no (no .nil (no (no (lf (.cells 8 (nd (.str 6 111477645534564) (nd (.slice 2297 0 2 3) (nd (.slice 2341 0 3 9) (lf (.slice 2398 0 3 9)) .nil) (lf (.slice 2358 0 2 3))) (nd (.slice 2286 0 1 2) (lf (.str 6 125779919729250)) (lf .slice0))))) .nil) .nil)) .nil))) .nil) .nil) .nil
def dp:T Ac:=no f5 (no l3 mt)
def mF:T Ac:=no (no .nil (no (no (no (no .nil (no .nil (no (no .nil (no (no (lf (.cells 4 (nd (.str 6 126870807932788) (nd (.slice 2400 0 2 4) (lf (.int .i64 (.ofNat 2))) .nil) (lf (.int .i64 (.ofNat 1)))))) .nil) .nil)) .nil))) .nil) de) XS)) (no ki (no (no (no (no .nil (no .nil (no (no .nil (no (no (lf (.cells 1 (lf (.func (.func 141) [] [(.ptr 2401 0)])))) .nil) .nil)) .nil))) .nil) .nil) dp))
def fO:Nat:=116864267180698698643752648497306376112859592516620202478445608736732946888651393269049958926881539486141964259179214259175678625804870
def QK:AV:=.str 56 fO
def oo:T Ac:=lf (.cells 10 (nd (.str 7 32496501869798497) (nd (.int .i64 (.ofNat 107)) (nd .slice0 (lf .slice0) .nil) (nd (.str 5 500069396323) (lf .slice0) .nil)) (nd .slice0 (nd .slice0 (lf .slice0) .nil) (lf (.int .i64 (.ofNat 3))))))
def mq:T Ac:=no oo .nil
def lg:T Ac:=no (no (no (no .nil (no .nil (no (no .nil mq) .nil))) .nil) .nil) .nil
def f8:T Ac:=no lg .nil
def Cc:T AV:=nd (.int .i64 (.ofNat 0)) (lf .slice0) .nil
def mG:T Ac:=no (no (no (no (no .nil (no .nil (no (no .nil (no (lf (.cells 5 (nd (.str 4 1684104530) Cc (nd .slice0 (lf (.slice 2752 0 2 5)) .nil)))) .nil)) .nil))) .nil) .nil) .nil) .nil
def jx:T Ac:=no (lf (.cells 3 (nd QK (lf (.int .i64 (.ofNat 0))) (lf (.int .i64 (.ofNat 0)))))) .nil
def nm:T Ac:=no (lf (.cells 3 (nd QK (lf (.int .i64 (.ofNat 56))) (lf (.int .i64 (.ofNat 0)))))) .nil
def VM:T AV:=nd .slice0 (lf .slice0) (lf (.int .i64 (.ofNat 0)))
def Uc:T AV:=nd (.int .i64 (.ofNat 1)) VM (nd (.str 8 7957695015192261990) (lf .slice0) (lf .slice0))
def KL:T AV:=nd .slice0 (lf .slice0) (lf .slice0)
def kU:T Ac:=no (no lg (no (no (no (no .nil (no .nil (no (no .nil (no (lf (.cells 15 (nd (.str 4 1953066613) Uc (nd .slice0 KL (nd (.int .i64 (.ofNat 3)) (lf (.str 4 2036625250)) (lf (.slice 2754 0 1 5))))))) .nil)) .nil))) .nil) .nil) .nil)) mG
def nP:Nat:=334141811369354902187641470347930835584603049540383469972066981984950580131027504379041201365418184931542729425151032365500023623788739963825435377541731381564141162924887468166890045517264436942720147273422686438956729496957302675136415287254712492981813859921912144
def US:AV:=.str 111 nP
def YV:T AV:=nd (.int .i64 (.ofNat 0)) (nd .slice0 (lf .slice0) (lf (.int .i64 (.ofNat 1)))) (nd (.str 4 1684957547) (lf .slice0) (lf .slice0))
def XV:T AV:=nd (.int .i64 (.ofNat 1)) (lf (.str 5 495857003619)) (lf .slice0)
def mi:T Ac:=no .nil (no (no .nil (no (no (no .nil (no (no (no (lf (.cells 15 (nd (.str 4 1701667182) YV (nd (.slice 4352 0 3 1) KL XV)))) .nil) .nil) .nil)) .nil) .nil)) .nil)
def eO:T Ac:=no (no .nil (no (no (no .nil (no (no (no (lf (.cells 5 (nd (.str 8 7957695015460107601) Cc (nd .slice0 (lf (.slice 4395 0 3 5)) .nil)))) .nil) .nil) .nil)) .nil) .nil)) .nil
def Wt:T Ac:=no (no .nil mi) (no .nil (no .nil eO))
def eP:T Ac:=lf (.cells 3 (nd (.int .u8 (.ofNat 97)) (lf (.int .u8 (.ofNat 46))) (lf (.int .u8 (.ofNat 98)))))
def d7:T Ac:=no (no (no eP .nil) .nil) .nil
def YQ:T Ac:=no (no (no (no (no .nil d7) .nil) .nil) .nil) .nil
def Zu:T AV:=nd (.str 5 495655677030) (lf (.int .i64 (.ofNat 0))) .nil
def cR:T AV:=nd (.int .i64 (.ofNat 0)) (nd .slice0 (lf (.str 9 2129333263492058543473)) .nil) (nd .slice0 (lf .slice0) .nil)
def Ui:T AV:=nd .slice0 Cc (lf .slice0)
def aF:T AV:=nd (.str 8 7310308045059482994) (nd .slice0 (nd .slice0 (lf .slice0) .nil) (nd (.str 5 431198270305) (lf (.int .i64 (.ofNat 0))) .nil)) Ui
def Uo:T AV:=nd (.int .i64 (.ofNat 2)) (lf .slice0) .nil
def aU:T AV:=nd .slice0 (nd .slice0 (nd .slice0 Uo (nd .slice0 (lf (.str 7 32495402443042401)) .nil)) (nd .slice0 (nd (.str 6 128009175786866) (lf (.int .i64 (.ofNat 0))) .nil) (nd .slice0 (lf .slice0) .nil))) (nd (.int .i64 (.ofNat 0)) (nd (.str 4 1701080931) (nd .slice0 (lf .slice0) .nil) (nd (.int .i64 (.ofNat 1)) (lf .slice0) .nil)) (nd .slice0 (nd .slice0 (lf .slice0) .nil) (lf (.str 5 474148661607))))
def pN:T Ac:=no (no .nil (no (no .nil (no (no (no (lf (.cells 45 (nd (.str 2 25705) (nd (.int .i64 (.ofNat 7)) (nd .slice0 (nd .slice0 Zu (nd .slice0 (lf (.slice 4397 0 1 5)) .nil)) cR) aF) aU))) .nil) .nil) .nil)) .nil)) .nil
def oh:T Ac:=no (no .nil (no pN .nil)) .nil
def dm:AV:=.tuple [(.agg [(.str 6 127978942194000),(.int .i64 (.ofNat 0)),.slice0,.slice0,(.slice 4426 0 9 5)]),(.int .i64 (.ofNat 0))]
def jT:T Ac:=no YQ .nil
def ge:T Ac:=no Wt (no (no jT .nil) oh)
def kn:T Ac:=no .nil (no (no .nil (no (no (no .nil (no (no (no (no (lf (.cells 5 (nd (.str 8 7957695015460107601) Cc (nd .slice0 (lf (.slice 8485 0 3 5)) .nil)))) .nil) .nil) .nil) .nil)) .nil) .nil)) .nil)
def j9:T Ac:=no (no .nil (no (no (no .nil (no (no (no (no (lf (.cells 15 (nd (.str 4 1701667182) YV (nd (.slice 8442 0 3 1) KL XV)))) .nil) .nil) .nil) .nil)) .nil) .nil)) .nil
def jw:T Ac:=no (no (no (no .nil (no (no .nil (no (no (no (no (lf (.cells 45 (nd (.str 2 25705) (nd (.int .i64 (.ofNat 7)) (nd .slice0 (nd .slice0 Zu (nd .slice0 (lf (.slice 8487 0 1 5)) .nil)) cR) aF) aU))) .nil) .nil) .nil) .nil)) .nil)) .nil) .nil) .nil
def dr:T Ac:=no .nil (no .nil (no .nil (no (no d7 .nil) .nil)))
def il:Nat:=28904085697790744044302768427331690777352579262463372561995429990300269956406695449966982741031681301967412982610393119554742232337578765168447572143781124616345008032034176601242378225722649443115390214440628638261272368767045334912270303434095150720149126518939239498701186807163031828207625018566143861072
def UL:AV:=.str 128 il
def od:T Ac:=no .nil (no .nil (no .nil (no .nil (no (no (no (no (lf (.cells 5 (nd (.str 5 474214394960) Cc (nd .slice0 (lf (.slice 4341 0 2 5)) .nil)))) .nil) .nil) .nil) .nil))))
def hY:T Ac:=lf (.cells 1 (lf (.int .u8 (.ofNat 65))))
def eo:T Ac:=no (no (no (no hY .nil) .nil) .nil) .nil
def kX:T Ac:=no .nil (no .nil (no .nil (no .nil eo)))
def YK:T Ac:=no (no .nil od) (no kX .nil)
def IP:T AV:=nd .slice0 (nd .slice0 (lf .slice0) .nil) (lf (.int .i64 (.ofNat 0)))
def ei:T Ac:=no .nil (no .nil (no (no (no (no (lf (.cells 10 (nd (.str 4 1701080931) (nd (.int .i64 (.ofNat 12)) (nd .slice0 (lf .slice0) .nil) (nd (.str 4 2036625250) (lf (.slice 4343 0 1 5)) .nil)) IP))) .nil) .nil) .nil) .nil))
def Xi:T Ac:=no .nil ei
def Zp:T AV:=nd (.str 4 1635017060) (lf .slice0) .nil
def dn:T Ac:=no .nil (no .nil (no .nil (no .nil (no (no (no (no (lf (.cells 10 (nd (.str 4 1702521203) (nd (.int .i64 (.ofNat 1)) (nd .slice0 (lf (.slice 4339 0 1 1)) .nil) Zp) IP))) .nil) .nil) .nil) .nil))))
def XD:T Ac:=no dn .nil
def fK:T Ac:=lf (.cells 5 (nd (.str 7 32480047799690611) (nd (.int .i64 (.ofNat 3600)) (lf .slice0) .nil) (nd .slice0 (lf .slice0) .nil)))
def eG:T Ac:=no (no (no fK .nil) .nil) .nil
def pF:T Ac:=no .nil (no .nil (no (no .nil eG) .nil))
def n6:T Ac:=no pF .nil
def jp:T Ac:=no (no .nil (no .nil (no (no .nil (no (no (no (lf (.cells 10 (nd (.str 4 1701080931) (nd (.int .i64 (.ofNat 51)) (nd .slice0 (lf .slice0) .nil) (nd (.str 4 2036625250) (lf (.slice 4450 0 1 5)) .nil)) IP))) .nil) .nil) .nil)) .nil))) .nil
def iP:T Ac:=no jp .nil
def da:T Ac:=no .nil (no .nil (no (no .nil (no (no (no (lf (.cells 5 (nd (.str 4 1701669204) Cc (nd .slice0 (lf (.slice 4448 0 1 5)) .nil)))) .nil) .nil) .nil)) .nil))
def jo:T Ac:=no (no .nil (no .nil (no (no .nil (no (no (no (lf (.cells 10 (nd (.str 6 121424789663823) (nd (.int .i64 (.ofNat 0)) (nd .slice0 (lf .slice0) .nil) (nd (.str 6 121424789663823) (lf (.slice 4452 0 2 5)) .nil)) (nd .slice0 (nd (.slice 4345 0 2 5) (lf .slice0) .nil) (lf (.int .i64 (.ofNat 0))))))) .nil) .nil) .nil)) .nil))) .nil
def kO:T Ac:=no (no (no da .nil) .nil) (no jo .nil)
def cW:AV:=.tuple [(.agg [(.str 6 127978942194000),(.int .i64 (.ofNat 0)),.slice0,.slice0,(.slice 4456 0 5 5)]),(.int .i64 (.ofNat 0))]
def bT:T AV:=nd (.int .i64 (.ofNat 1)) (nd .slice0 (nd .slice0 (lf (.str 5 500069396323)) (lf .slice0)) Cc) (nd (.str 2 25705) (nd .slice0 (lf .slice0) .nil) Q3)
def Yb:T AV:=nd .slice0 (lf (.str 7 32491047111389295)) .nil
def bk:T AV:=nd (.int .i64 (.ofNat 99)) (nd (.str 7 28259044152142949) (lf .slice0) .nil) (nd .slice0 (lf .slice0) .nil)
def io:T Ac:=no (no .nil (no .nil (no (no .nil (no (no (no (lf (.cells 25 (nd (.str 2 28783) bT (nd .slice0 (nd .slice0 (nd .slice0 (lf (.int .i64 (.ofNat 2))) (lf (.slice 4454 0 2 5))) Yb) bk)))) .nil) .nil) .nil)) .nil))) .nil
def jO:T Ac:=no (no YK (no (no .nil (no .nil Xi)) XD)) (no (no (no n6 io) iP) kO)
def iF:T Ac:=no (no .nil (no .nil (no (no .nil (no (no (no (no (lf (.cells 10 (nd (.str 6 121424789663823) (nd (.int .i64 (.ofNat 0)) (nd .slice0 (lf .slice0) .nil) (nd (.str 6 121424789663823) (lf (.slice 8541 0 2 5)) .nil)) (nd .slice0 (nd (.slice 8434 0 2 5) (lf .slice0) .nil) (lf (.int .i64 (.ofNat 0))))))) .nil) .nil) .nil) .nil)) .nil))) .nil
def iC:T Ac:=no .nil (no (no .nil (no (no .nil (no (no (no (no (lf (.cells 5 (nd (.str 4 1701669204) Cc (nd .slice0 (lf (.slice 8537 0 1 5)) .nil)))) .nil) .nil) .nil) .nil)) .nil)) .nil)
def eJ:T Ac:=no (no .nil (no .nil (no (no .nil (no (no (no (no (lf (.cells 25 (nd (.str 2 28783) bT (nd .slice0 (nd .slice0 (nd .slice0 (lf (.int .i64 (.ofNat 2))) (lf (.slice 8543 0 2 5))) Yb) bk)))) .nil) .nil) .nil) .nil)) .nil))) .nil
def mw:T Ac:=no .nil (no (no .nil (no eG .nil)) .nil)
def mu:T Ac:=no .nil (no (no .nil (no (no .nil (no (no (no (no (lf (.cells 10 (nd (.str 4 1701080931) (nd (.int .i64 (.ofNat 51)) (nd .slice0 (lf .slice0) .nil) (nd (.str 4 2036625250) (lf (.slice 8539 0 1 5)) .nil)) IP))) .nil) .nil) .nil) .nil)) .nil)) .nil)
def dt:T Ac:=no .nil (no .nil (no .nil (no (no (no (no (no (lf (.cells 5 (nd (.str 5 474214394960) Cc (nd .slice0 (lf (.slice 8430 0 2 5)) .nil)))) .nil) .nil) .nil) .nil) .nil)))
def kN:T Ac:=no (no .nil (no .nil (no .nil (no eo .nil)))) .nil
def kE:T Ac:=no .nil (no .nil (no .nil (no (no (no (no (no (lf (.cells 10 (nd (.str 4 1701080931) (nd (.int .i64 (.ofNat 12)) (nd .slice0 (lf .slice0) .nil) (nd (.str 4 2036625250) (lf (.slice 8432 0 1 5)) .nil)) IP))) .nil) .nil) .nil) .nil) .nil)))
def lz:T Ac:=no (no .nil (no .nil (no .nil (no (no (no (no (no (lf (.cells 10 (nd (.str 4 1702521203) (nd (.int .i64 (.ofNat 1)) (nd .slice0 (lf (.slice 8428 0 1 1)) .nil) Zp) IP))) .nil) .nil) .nil) .nil) .nil)))) .nil
def kc:Nat:=106287439053522299367901384785573967121784736544975598683181034276690090110205683053438256727202612925020371276657898774864
def pI:AV:=.str 51 kc
def eA:T AV:=nd (.str 4 1702521203) (lf .slice0) (lf .slice0)
def WB:T AV:=nd (.int .i64 (.ofNat 1)) VM eA
def Rd:T AV:=nd (.int .i64 (.ofNat 2)) (lf (.str 4 1635017060)) (lf .slice0)
def mN:T Ac:=no .nil (no (no (no .nil (no (no (no (no (lf (.cells 15 (nd (.str 6 125779768604014) WB (nd .slice0 (nd .slice0 (lf .slice0) (lf (.slice 4237 0 2 1))) Rd)))) .nil) .nil) .nil) .nil)) .nil) .nil)
def nu:T Ac:=no .nil (no (no (no .nil (no (no (no (no (lf (.cells 10 (nd (.str 2 28783) (nd (.int .i64 (.ofNat 3)) (nd .slice0 (lf .slice0) .nil) (nd (.str 4 2036625250) (lf (.slice 4241 0 1 5)) .nil)) IP))) .nil) .nil) .nil) .nil)) .nil) .nil)
def pm:T Ac:=no .nil (no (no (no .nil (no (no (no (no (lf (.cells 5 (nd (.str 5 461229747266) Cc (nd .slice0 (lf (.slice 4239 0 3 5)) .nil)))) .nil) .nil) .nil) .nil)) .nil) .nil)
def dy:T Ac:=lf (.cells 2 (nd (.int .u8 (.ofNat 10)) (lf (.int .u8 (.ofNat 11))) .nil))
def lR:T Ac:=no (no (no (no dy .nil) .nil) .nil) .nil
def gY:T Ac:=no (no (no (no .nil lR) .nil) .nil) .nil
def iN:T Ac:=no (no (no mN .nil) (no nu .nil)) (no (no pm .nil) (no .nil gY))
def fa:AV:=.tuple [(.agg [(.str 6 127978942194000),(.int .i64 (.ofNat 0)),.slice0,.slice0,(.slice 4243 0 2 5)]),(.int .i64 (.ofNat 0))]
def nn:T Ac:=no iN .nil
def gh:T Ac:=no (no (no (no .nil (no (no (no (no (no (lf (.cells 15 (nd (.str 6 125779768604014) WB (nd .slice0 (nd .slice0 (lf .slice0) (lf (.slice 8325 0 2 1))) Rd)))) .nil) .nil) .nil) .nil) .nil)) .nil) .nil) .nil
def gC:T Ac:=no (no (no (no .nil (no (no (no (no (no (lf (.cells 10 (nd (.str 2 28783) (nd (.int .i64 (.ofNat 3)) (nd .slice0 (lf .slice0) .nil) (nd (.str 4 2036625250) (lf (.slice 8329 0 1 5)) .nil)) IP))) .nil) .nil) .nil) .nil) .nil)) .nil) .nil) .nil
def iL:T Ac:=no (no (no (no .nil (no (no (no (no (no (lf (.cells 5 (nd (.str 5 461229747266) Cc (nd .slice0 (lf (.slice 8327 0 3 5)) .nil)))) .nil) .nil) .nil) .nil) .nil)) .nil) .nil) .nil
def fi:T Ac:=no (no (no (no .nil (no lR .nil)) .nil) .nil) .nil
def nO:Nat:=10180313442344863848627105456646557305858708032898810284173351201117521478004348568936388834184642324018622086595998409653867506708699010132859517989901594394286257036503245136
def nZ:AV:=.str 73 nO
def jk:T Ac:=lf (.cells 1 (lf (.int .u8 (.ofNat 116))))
def l9:T Ac:=no (no (no (no jk .nil) .nil) .nil) .nil
def dK:T Ac:=no (no (no .nil l9) .nil) .nil
def oe:T Ac:=no (no .nil (no .nil dK)) .nil
def Yo:T AV:=nd .slice0 Q3 (lf .slice0)
def Z1:T AV:=nd .slice0 Yo (nd (.int .i64 (.ofNat 0)) (nd (.str 6 114849160783212) (lf .slice0) .nil) (lf .slice0))
def pH:T Ac:=no .nil (no (no (no (no (lf (.cells 20 (nd (.str 4 1702521203) (nd (.int .i64 (.ofNat 1)) (nd .slice0 (nd (.slice 4249 0 1 1) (lf (.str 7 28254628860223856)) .nil) Uo) (nd (.str 5 426970738548) (nd .slice0 (lf (.slice 4302 0 2 1)) .nil) (lf .slice0))) Z1))) .nil) .nil) .nil) .nil)
def dA:T Ac:=no (no .nil (no (no .nil pH) .nil)) .nil
def ga:T Ac:=lf (.cells 2 (nd (.int .u8 (.ofNat 1)) (lf (.int .u8 (.ofNat 2))) .nil))
def ko:T Ac:=no (no (no (no ga .nil) .nil) .nil) .nil
def lV:T Ac:=no .nil (no (no (no .nil (no .nil ko)) .nil) .nil)
def gV:AV:=.tuple [(.agg [(.str 6 127978942194000),(.int .i64 (.ofNat 0)),.slice0,.slice0,(.slice 4308 0 3 5)]),(.int .i64 (.ofNat 0))]
def cj:T AV:=nd (.int .i64 (.ofNat 3)) VM (nd (.str 5 495655677030) (lf .slice0) (lf .slice0))
def f6:T Ac:=no (no .nil (no (no .nil (no .nil (no (no (no (no (lf (.cells 15 (nd (.str 4 1684957547) cj (nd .slice0 KL (nd (.int .i64 (.ofNat 0)) (lf (.str 4 2036625250)) (lf (.slice 4306 0 1 5))))))) .nil) .nil) .nil) .nil))) .nil)) .nil
def mb:T Ac:=no (no (no .nil (no (no .nil (no .nil (no (no (no (no (lf (.cells 5 (nd (.str 7 29400294205060432) Cc (nd .slice0 (lf (.slice 4304 0 4 5)) .nil)))) .nil) .nil) .nil) .nil))) .nil)) .nil) lV
def mg:T Ac:=no (no .nil oe) (no (no dA f6) mb)
def oO:T Ac:=no (no .nil (no (no (no .nil (no .nil (no (no (no (no (no (lf (.cells 20 (nd (.str 4 1702521203) (nd (.int .i64 (.ofNat 1)) (nd .slice0 (nd (.slice 8336 0 1 1) (lf (.str 7 28254628860223856)) .nil) Uo) (nd (.str 5 426970738548) (nd .slice0 (lf (.slice 8389 0 2 1)) .nil) (lf .slice0))) Z1))) .nil) .nil) .nil) .nil) .nil))) .nil) .nil)) (no .nil (no (no (no .nil (no .nil (no (no (no (no (no (lf (.cells 15 (nd (.str 4 1684957547) cj (nd .slice0 KL (nd (.int .i64 (.ofNat 0)) (lf (.str 4 2036625250)) (lf (.slice 8393 0 1 5))))))) .nil) .nil) .nil) .nil) .nil))) .nil) .nil))
def nJ:T Ac:=no (no .nil (no .nil (no (no (no (no (no (lf (.cells 5 (nd (.str 7 29400294205060432) Cc (nd .slice0 (lf (.slice 8391 0 4 5)) .nil)))) .nil) .nil) .nil) .nil) .nil))) .nil
def n5:T Ac:=no (no (no (no .nil (no .nil (no ko .nil))) .nil) .nil) .nil
def kA:T Ac:=no .nil (no l9 .nil)
def nW:Nat:=2370288955486902355615865952407498391446195464204396606297521959243641357825871961855213789442016289323053235325288688711267114013175054259679322907700040473843557714
def ii:AV:=.str 69 nW
def pG:T Ac:=no (no (no .nil (no .nil (no (no (no (no (lf (.cells 5 (nd (.str 6 127979059635539) Cc (nd .slice0 (lf (.slice 4285 0 3 5)) .nil)))) .nil) .nil) .nil) .nil))) .nil) .nil
def fb:T Ac:=lf (.cells 2 (nd (.int .u8 (.ofNat 104)) (lf (.int .u8 (.ofNat 105))) .nil))
def py:T Ac:=no (no (no (no fb .nil) .nil) .nil) .nil
def oE:T Ac:=no .nil (no .nil (no (no .nil py) .nil))
def Ya:T AV:=nd .slice0 (lf (.str 4 2036625250)) .nil
def YO:T AV:=nd (.str 5 491495778669) (nd .slice0 (lf .slice0) .nil) (lf .slice0)
def bI:T AV:=nd .slice0 Yo (nd (.int .i64 (.ofNat 3)) (nd (.str 4 1702521203) (lf .slice0) .nil) (lf .slice0))
def dU:T Ac:=no (no .nil (no .nil (no (no (no (no (lf (.cells 20 (nd (.str 4 1684957547) (nd (.int .i64 (.ofNat 22)) (nd .slice0 Ya (nd (.int .i64 (.ofNat 7)) (lf (.slice 4287 0 1 5)) .nil)) YO) bI))) .nil) .nil) .nil) .nil))) .nil
def ZD:T AV:=nd (.int .i64 (.ofNat 21)) VM eA
def gX:T Ac:=no .nil (no .nil (no (no .nil (no (no (no (no (lf (.cells 15 (nd (.str 4 1684957547) ZD (nd .slice0 (nd .slice0 (lf .slice0) (lf (.slice 4283 0 2 1))) Rd)))) .nil) .nil) .nil) .nil)) .nil))
def di:T Ac:=no (no (no pG .nil) (no .nil oE)) (no (no (no dU .nil) .nil) (no .nil gX))
def o0:AV:=.tuple [(.agg [(.str 6 110442657834322),(.int .i64 (.ofNat 0)),.slice0,.slice0,(.slice 4289 0 4 5)]),(.int .i64 (.ofNat 0))]
def pd:T Ac:=no di .nil
def iZ:T Ac:=no .nil (no .nil (no (no .nil (no (no (no (no (no (lf (.cells 20 (nd (.str 4 1684957547) (nd (.int .i64 (.ofNat 22)) (nd .slice0 Ya (nd (.int .i64 (.ofNat 7)) (lf (.slice 8373 0 1 5)) .nil)) YO) bI))) .nil) .nil) .nil) .nil) .nil)) .nil))
def gZ:T Ac:=no .nil (no .nil (no (no .nil (no (no (no (no (no (lf (.cells 15 (nd (.str 4 1684957547) ZD (nd .slice0 (nd .slice0 (lf .slice0) (lf (.slice 8369 0 2 1))) Rd)))) .nil) .nil) .nil) .nil) .nil)) .nil))
def kk:T Ac:=no .nil (no (no .nil (no py .nil)) .nil)
def fJ:T Ac:=no .nil (no .nil (no (no .nil (no (no (no (no (no (lf (.cells 5 (nd (.str 6 127979059635539) Cc (nd .slice0 (lf (.slice 8371 0 3 5)) .nil)))) .nil) .nil) .nil) .nil) .nil)) .nil))
def mE:Nat:=129128107439652721440884359868880474911077391213046361112897142741435395544455277632196497166915582767066435132014526358789569517217112449854039378
def nK:AV:=.str 61 mE
def kf:T Ac:=lf (.cells 3 (nd (.int .u8 (.ofNat 71)) (lf (.int .u8 (.ofNat 69))) (lf (.int .u8 (.ofNat 84)))))
def m3:T Ac:=no (no (no (no (no kf .nil) .nil) .nil) .nil) .nil
def iI:T Ac:=no m3 .nil
def lq:T Ac:=no .nil iI
def l8:T Ac:=lf (.cells 1 (lf (.int .u8 (.ofNat 47))))
def kV:T Ac:=no (no (no (no (no l8 .nil) .nil) .nil) .nil) .nil
def jC:T Ac:=lf (.cells 2 (nd (.str 4 1953722184) (lf (.str 1 97)) .nil))
def eL:T Ac:=no (no (no (no jC .nil) .nil) .nil) .nil
def jb:T Ac:=lf (.cells 1 (lf (.int .u8 (.ofNat 49))))
def gF:T Ac:=no (no (no (no (no jb .nil) .nil) .nil) .nil) .nil
def f9:T Ac:=no (no (no .nil (no (no .nil kV) .nil)) (no (no (no (no .nil eL) .nil) .nil) .nil)) (no .nil (no (no .nil (no .nil gF)) .nil))
def Xu:T AV:=nd (.str 4 1752457584) (nd .slice0 (lf .slice0) .nil) (lf .slice0)
def oi:T Ac:=no (no (no (no .nil (no (no (no (no (lf (.cells 20 (nd (.str 6 110429656606061) (nd (.int .i64 (.ofNat 0)) (nd .slice0 (nd (.slice 4176 0 1 1) (lf (.str 6 126875152509286)) .nil) Cc) Xu) (nd (.slice 4157 0 3 1) (nd .slice0 Q3 (lf (.slice 4204 0 1 1))) (nd (.int .i64 (.ofNat 0)) (nd (.str 7 31084746137298294) (lf (.slice 4232 0 1 2)) .nil) (lf .slice0)))))) .nil) .nil) .nil) .nil)) .nil) .nil) .nil
def iw:T Ac:=no f9 (no (no .nil oi) .nil)
def gK:AV:=.tuple [(.agg [(.str 7 32777976897693010),(.int .i64 (.ofNat 0)),.slice0,.slice0,(.slice 4234 0 4 5)]),(.int .i64 (.ofNat 0))]
def fA:T Ac:=no (no .nil (no .nil (no .nil (no .nil lq)))) iw
def nS:T Ac:=no (no (no (no (no (no .nil (no (no (no (no (no (lf (.cells 20 (nd (.str 6 110429656606061) (nd (.int .i64 (.ofNat 0)) (nd .slice0 (nd (.slice 8261 0 1 1) (lf (.str 6 126875152509286)) .nil) Cc) Xu) (nd (.slice 8242 0 3 1) (nd .slice0 Q3 (lf (.slice 8289 0 1 1))) (nd (.int .i64 (.ofNat 0)) (nd (.str 7 31084746137298294) (lf (.slice 8317 0 1 2)) .nil) (lf .slice0)))))) .nil) .nil) .nil) .nil) .nil)) .nil) .nil) .nil) .nil) .nil
def mz:T Ac:=no (no (no .nil (no .nil (no gF .nil))) .nil) .nil
def lx:T Ac:=no (no (no .nil (no kV .nil)) .nil) .nil
def iR:T Ac:=no (no eL .nil) .nil
def mM:T Ac:=no .nil (no .nil (no iI .nil))
def fw:Nat:=84941473665896090740379050923728341260408324141140240517563413265568716588993753270831445410960845608078017590568562218586690544013880838183716460148994955113731541946445412915439404617730059587284470421316219397001482703247127760391771129836058833535280826010789175632
def Uw:AV:=.str 112 fw
def gB:T Ac:=lf (.cells 5 (nd (.str 4 1819047246) Cc (nd .slice0 (lf .slice0) .nil)))
def dc:T Ac:=no (no (no gB .nil) .nil) .nil
def jM:T Ac:=no (no .nil (no (no .nil dc) .nil)) .nil
def pO:T Ac:=lf (.cells 1 (lf (.int .u8 (.ofNat 43))))
def m6:T Ac:=no (no (no pO .nil) .nil) .nil
def lJ:T Ac:=no (no .nil m6) .nil
def bu:T AV:=nd (.str 6 127970252055151) (nd .slice0 (lf .slice0) .nil) (lf .slice0)
def cu:T AV:=nd .slice0 Yo (nd (.int .i64 (.ofNat 0)) (nd (.str 4 1684957547) (lf .slice0) .nil) (lf .slice0))
def pp:T Ac:=no (no (no .nil (no (no .nil (no (no (no (lf (.cells 20 (nd (.str 4 1702521203) (nd (.int .i64 (.ofNat 1)) (nd .slice0 (nd (.slice 4361 0 1 1) (lf (.str 5 435761734006)) .nil) (nd (.int .i64 (.ofNat 5)) (lf (.slice 4419 0 1 5)) .nil)) bu) cu))) .nil) .nil) .nil)) .nil)) .nil) .nil
def ib:T Ac:=no pp .nil
def d8:T Ac:=no .nil (no (no .nil (no (no (no (lf (.cells 5 (nd (.str 7 29113321536776514) Cc (nd .slice0 (lf (.slice 4421 0 4 5)) .nil)))) .nil) .nil) .nil)) .nil)
def eU:T Ac:=lf (.cells 2 (nd (.int .u8 (.ofNat 112)) (lf (.int .u8 (.ofNat 117))) .nil))
def jS:T Ac:=no (no (no (no (no eU .nil) .nil) .nil) .nil) .nil
def fS:T Ac:=no jM (no .nil (no .nil jS))
def ZC:T AV:=nd (.int .i64 (.ofNat 1)) (nd .slice0 (nd .slice0 (nd (.str 4 1684957547) (lf (.int .i64 (.ofNat 0))) .nil) (lf .slice0)) (nd (.int .i64 (.ofNat 0)) (lf .slice0) (lf .slice0))) (nd (.str 4 1702521203) (nd .slice0 (nd .slice0 (lf .slice0) .nil) (lf (.str 5 500069396323))) (nd .slice0 (lf (.int .i64 (.ofNat 5))) (lf .slice0)))
def XK:T AV:=nd .slice0 (lf .slice0) (lf (.str 8 8315736635898489186))
def pM:T Ac:=no (no lJ (no (no .nil (no (no (no (lf (.cells 35 (nd (.str 7 31084746137298294) ZC (nd .slice0 (nd .slice0 Ui (nd (.slice 4211 0 2 1) (lf (.str 2 25705)) (lf .slice0))) (nd (.int .i64 (.ofNat 2)) (nd (.str 9 2240444390150436122467) (nd .slice0 (lf (.slice 4423 0 1 5)) .nil) (lf (.int .i64 (.ofNat 1)))) XK))))) .nil) .nil) .nil)) .nil)) .nil
def oT:T Ac:=no (no (no .nil (no (no d8 .nil) .nil)) (no fS .nil)) (no (no .nil (no pM .nil)) ib)
def nV:AV:=.tuple [(.agg [(.str 6 127978942194000),(.int .i64 (.ofNat 0)),.slice0,.slice0,(.slice 4425 0 7 5)]),(.int .i64 (.ofNat 0))]
def gq:T Ac:=no oT .nil
def pa:T Ac:=no .nil (no jS .nil)
def l4:T Ac:=no .nil (no (no (no .nil (no dc .nil)) .nil) .nil)
def lP:T Ac:=no .nil (no .nil (no (no (no .nil (no (no (no (no (lf (.cells 5 (nd (.str 7 29113321536776514) Cc (nd .slice0 (lf (.slice 8505 0 4 5)) .nil)))) .nil) .nil) .nil) .nil)) .nil) .nil))
def nN:T Ac:=no .nil (no (no (no .nil (no (no (no (no (lf (.cells 20 (nd (.str 4 1702521203) (nd (.int .i64 (.ofNat 1)) (nd .slice0 (nd (.slice 8445 0 1 1) (lf (.str 5 435761734006)) .nil) (nd (.int .i64 (.ofNat 5)) (lf (.slice 8503 0 1 5)) .nil)) bu) cu))) .nil) .nil) .nil) .nil)) .nil) .nil)
def nc:T Ac:=no .nil (no .nil (no (no (no .nil (no (no (no (no (lf (.cells 35 (nd (.str 7 31084746137298294) ZC (nd .slice0 (nd .slice0 Ui (nd (.slice 8295 0 2 1) (lf (.str 2 25705)) (lf .slice0))) (nd (.int .i64 (.ofNat 2)) (nd (.str 9 2240444390150436122467) (nd .slice0 (lf (.slice 8507 0 1 5)) .nil) (lf (.int .i64 (.ofNat 1)))) XK))))) .nil) .nil) .nil) .nil)) .nil) (no .nil (no (no m6 .nil) .nil))))
def km:T Ac:=no (no (no mq .nil) .nil) .nil
def bC:T Ac:=no (no (no .nil (no (no .nil (no (no .nil (no (no (no (no (lf (.cells 5 (nd (.str 4 1684104530) Cc (nd .slice0 (lf (.slice 4262 0 2 5)) .nil)))) .nil) .nil) .nil) .nil)) .nil)) .nil)) .nil) (no (no .nil (no (no .nil (no (no .nil (no (no (no (no (lf (.cells 15 (nd (.str 4 1953066613) Uc (nd .slice0 KL (nd (.int .i64 (.ofNat 3)) (lf (.str 4 2036625250)) (lf (.slice 4264 0 1 5))))))) .nil) .nil) .nil) .nil)) .nil)) .nil)) (no (no (no .nil (no (no .nil km) .nil)) .nil) .nil))
def gz:AV:=.tuple [(.agg [(.str 5 435626799686),(.int .i64 (.ofNat 0)),.slice0,.slice0,(.slice 4266 0 3 5)]),(.int .i64 (.ofNat 0))]
def lj:T Ac:=no .nil bC
def mK:T Ac:=no (no .nil (no .nil (no .nil (no (no (no .nil (no (no (no (no (no (lf (.cells 5 (nd (.str 4 1684104530) Cc (nd .slice0 (lf (.slice 8345 0 2 5)) .nil)))) .nil) .nil) .nil) .nil) .nil)) .nil) .nil)))) (no (no .nil (no .nil (no (no (no .nil (no km .nil)) .nil) .nil))) (no .nil (no .nil (no (no (no .nil (no (no (no (no (no (lf (.cells 15 (nd (.str 4 1953066613) Uc (nd .slice0 KL (nd (.int .i64 (.ofNat 3)) (lf (.str 4 2036625250)) (lf (.slice 8347 0 1 5))))))) .nil) .nil) .nil) .nil) .nil)) .nil) .nil))))
def o1:Orc:=
 {f:=284,args:=[(.slice 45 0 4 1),(.func (.func 285) [] [(.ptr 88 0)])],part:=(no y6 (no (no (no .nil (no .nil (no (lf (.cells 5 (nd (.int .i64 (.ofNat 0)) y7 y8))) .nil))) (no .nil (no (lf (.cells 4 (nd y9 (nd (.int .i64 (.ofNat 42)) (lf (.int .i64 (.ofNat 9))) .nil) (lf (.int .i64 (.ofNat 3)))))) .nil))) .nil)),nx:=89,ok:=true,v:=(.bool true),out:=(no .nil (no (no (no .nil (no .nil (no (lf (.cells 5 (nd (.int .i64 (.ofNat 1)) y7 y8))) .nil))) y10) .nil)),nx':=89,wr:=[44,88]}
theorem k1:∀[F:Facts],Ab (Env.ofS Tryz.prog [] []) 1000000 o1=true:=by
 intro F
 kernel_rfl
theorem w1 (G:Nat→D→D):o1.Valid Tryz.prog G:=Ad.val (okE _ []) (w0 G) k1
def o2:Orc:=
 {f:=308,args:=[(.ptr 44 0),(.int .i64 (.ofNat 416)),(.func (.func 319) [] [])],part:=y11,nx:=91,ok:=true,v:=(.int .i64 (.ofNat 1)),out:=y13,nx':=91,wr:=[44]}
theorem k2:∀[F:Facts],Ab (Env.ofS Tryz.prog [] []) 1000000 o2=true:=by
 intro F
 kernel_rfl
theorem w2 (G:Nat→D→D):o2.Valid Tryz.prog G:=Ad.val (okE _ []) (w0 G) k2
def o3:Orc:=
 {f:=282,args:=[(.ptr 44 0)],part:=y11,nx:=91,ok:=true,v:=(.tuple []),out:=y13,nx':=93,wr:=[44]}
theorem k3:∀[F:Facts],Ab (Env.ofS Tryz.prog [o2] []) 1000000 o3=true:=by
 intro F
 kernel_rfl
theorem w3 (G:Nat→D→D):o3.Valid Tryz.prog G:=Ad.val (okE _ []) (.cons (w2 G) (w0 G)) k3
def o4:Orc:=
 {f:=284,args:=[(.slice 45 0 4 1),(.func (.func 285) [] [(.ptr 93 0)])],part:=(no (no .nil (no .nil (no .nil (no y2 (no (lf (.cells 5 (nd (.int .i64 (.ofNat 0)) y7 y14))) .nil))))) y12),nx:=94,ok:=true,v:=(.bool true),out:=(no (no .nil (no .nil (no .nil (no .nil (no (lf (.cells 5 (nd (.int .i64 (.ofNat 2)) y7 y14))) .nil))))) y15),nx':=96,wr:=[44,93]}
theorem k4:∀[F:Facts],Ab (Env.ofS Tryz.prog [] []) 1000000 o4=true:=by
 intro F
 kernel_rfl
theorem w4 (G:Nat→D→D):o4.Valid Tryz.prog G:=Ad.val (okE _ []) (w0 G) k4
def o5:Orc:=
 {f:=308,args:=[(.ptr 44 0),(.int .i64 (.ofNat 416)),(.func (.func 319) [] [])],part:=y16,nx:=98,ok:=true,v:=(.int .i64 (.ofNat 1)),out:=y18,nx':=98,wr:=[44]}
theorem k5:∀[F:Facts],Ab (Env.ofS Tryz.prog [] []) 1000000 o5=true:=by
 intro F
 kernel_rfl
theorem w5 (G:Nat→D→D):o5.Valid Tryz.prog G:=Ad.val (okE _ []) (w0 G) k5
def o6:Orc:=
 {f:=282,args:=[(.ptr 44 0)],part:=y16,nx:=98,ok:=true,v:=(.tuple []),out:=y18,nx':=100,wr:=[44]}
theorem k6:∀[F:Facts],Ab (Env.ofS Tryz.prog [o5] []) 1000000 o6=true:=by
 intro F
 kernel_rfl
theorem w6 (G:Nat→D→D):o6.Valid Tryz.prog G:=Ad.val (okE _ []) (.cons (w5 G) (w0 G)) k6
def o7:Orc:=
 {f:=284,args:=[(.slice 45 0 4 1),(.func (.func 285) [] [(.ptr 100 0)])],part:=(no y6 (no (no .nil (no (no (no .nil (lf (.cells 5 (nd (.int .i64 (.ofNat 0)) y7 y19)))) .nil) y17)) .nil)),nx:=101,ok:=true,v:=(.bool true),out:=(no .nil (no (no .nil (no (no (no .nil (lf (.cells 5 (nd (.int .i64 (.ofNat 1)) y7 y19)))) .nil) y20)) .nil)),nx':=101,wr:=[44,100]}
theorem k7:∀[F:Facts],Ab (Env.ofS Tryz.prog [] []) 1000000 o7=true:=by
 intro F
 kernel_rfl
theorem w7 (G:Nat→D→D):o7.Valid Tryz.prog G:=Ad.val (okE _ []) (w0 G) k7
def o8:Orc:=
 {f:=308,args:=[(.ptr 44 0),(.int .i64 (.ofNat 416)),(.func (.func 319) [] [])],part:=y21,nx:=103,ok:=true,v:=(.int .i64 (.ofNat 1)),out:=y23,nx':=103,wr:=[44]}
theorem k8:∀[F:Facts],Ab (Env.ofS Tryz.prog [] []) 1000000 o8=true:=by
 intro F
 kernel_rfl
theorem w8 (G:Nat→D→D):o8.Valid Tryz.prog G:=Ad.val (okE _ []) (w0 G) k8
def o9:Orc:=
 {f:=282,args:=[(.ptr 44 0)],part:=y21,nx:=103,ok:=true,v:=(.tuple []),out:=y23,nx':=105,wr:=[44]}
theorem k9:∀[F:Facts],Ab (Env.ofS Tryz.prog [o8] []) 1000000 o9=true:=by
 intro F
 kernel_rfl
theorem w9 (G:Nat→D→D):o9.Valid Tryz.prog G:=Ad.val (okE _ []) (.cons (w8 G) (w0 G)) k9
def o10:Orc:=
 {f:=284,args:=[(.slice 45 0 4 1),(.func (.func 285) [] [(.ptr 105 0)])],part:=(no (no .nil (no (no .nil (no (no .nil (lf (.cells 5 (nd (.int .i64 (.ofNat 0)) y7 y24)))) .nil)) y4)) y22),nx:=106,ok:=true,v:=(.bool true),out:=(no (no .nil (no (no .nil (no (no .nil (lf (.cells 5 (nd (.int .i64 (.ofNat 2)) y7 (nd (.int .i64 (.ofNat 128)) (lf (.int .i64 (.ofNat 21))) .nil))))) .nil)) .nil)) y25),nx':=108,wr:=[44,105]}
theorem k10:∀[F:Facts],Ab (Env.ofS Tryz.prog [] []) 1000000 o10=true:=by
 intro F
 kernel_rfl
theorem w10 (G:Nat→D→D):o10.Valid Tryz.prog G:=Ad.val (okE _ []) (w0 G) k10
def o11:Orc:=
 {f:=282,args:=[(.ptr 44 0)],part:=(no .nil y25),nx:=110,ok:=true,v:=(.tuple []),out:=.nil,nx':=111,wr:=[]}
theorem k11:∀[F:Facts],Ab (Env.ofS Tryz.prog [] []) 1000000 o11=true:=by
 intro F
 kernel_rfl
theorem w11 (G:Nat→D→D):o11.Valid Tryz.prog G:=Ad.val (okE _ []) (w0 G) k11
def o12:Orc:=
 {f:=284,args:=[(.slice 45 0 4 1),(.func (.func 285) [] [(.ptr 111 0)])],part:=(no (no (no (no (no .nil (no .nil (lf (.cells 5 (nd (.int .i64 (.ofNat 0)) y7 y26))))) .nil) .nil) y5) y25),nx:=112,ok:=true,v:=(.bool true),out:=(no (no (no (no (no .nil (no .nil (lf (.cells 5 (nd (.int .i64 (.ofNat 4)) y7 y26))))) .nil) .nil) .nil) y27),nx':=113,wr:=[44,111]}
theorem k12:∀[F:Facts],Ab (Env.ofS Tryz.prog [] []) 1000000 o12=true:=by
 intro F
 kernel_rfl
theorem w12 (G:Nat→D→D):o12.Valid Tryz.prog G:=Ad.val (okE _ []) (w0 G) k12
def o13:Orc:=
 {f:=308,args:=[(.ptr 44 0),(.int .i64 (.ofNat 416)),(.func (.func 319) [] [])],part:=y28,nx:=115,ok:=true,v:=(.int .i64 (.ofNat 3)),out:=y30,nx':=115,wr:=[44]}
theorem k13:∀[F:Facts],Ab (Env.ofS Tryz.prog [] []) 1000000 o13=true:=by
 intro F
 kernel_rfl
theorem w13 (G:Nat→D→D):o13.Valid Tryz.prog G:=Ad.val (okE _ []) (w0 G) k13
def o14:Orc:=
 {f:=282,args:=[(.ptr 44 0)],part:=y28,nx:=115,ok:=true,v:=(.tuple []),out:=y30,nx':=117,wr:=[44]}
theorem k14:∀[F:Facts],Ab (Env.ofS Tryz.prog [o13] []) 1000000 o14=true:=by
 intro F
 kernel_rfl
theorem w14 (G:Nat→D→D):o14.Valid Tryz.prog G:=Ad.val (okE _ []) (.cons (w13 G) (w0 G)) k14
def o15:Orc:=
 {f:=284,args:=[(.slice 45 0 4 1),(.func (.func 285) [] [(.ptr 117 0)])],part:=(no (no .nil (no .nil (no (no .nil (no .nil (lf (.cells 5 (nd (.int .i64 (.ofNat 0)) y31 y32))))) y3))) y29),nx:=118,ok:=true,v:=(.bool true),out:=(no (no .nil (no .nil (no (no .nil (no .nil (lf (.cells 5 (nd (.int .i64 (.ofNat 1)) y31 y32))))) .nil))) y33),nx':=118,wr:=[44,117]}
theorem k15:∀[F:Facts],Ab (Env.ofS Tryz.prog [] []) 1000000 o15=true:=by
 intro F
 kernel_rfl
theorem w15 (G:Nat→D→D):o15.Valid Tryz.prog G:=Ad.val (okE _ []) (w0 G) k15
def o16:Orc:=
 {f:=282,args:=[(.ptr 44 0)],part:=(no .nil y33),nx:=120,ok:=true,v:=(.tuple []),out:=.nil,nx':=121,wr:=[]}
theorem k16:∀[F:Facts],Ab (Env.ofS Tryz.prog [] []) 1000000 o16=true:=by
 intro F
 kernel_rfl
theorem w16 (G:Nat→D→D):o16.Valid Tryz.prog G:=Ad.val (okE _ []) (w0 G) k16
def o17:Orc:=
 {f:=284,args:=[(.slice 45 0 4 1),(.func (.func 285) [] [(.ptr 121 0)])],part:=(no (no .nil (no (no .nil (no .nil (no .nil (lf (.cells 5 (nd (.int .i64 (.ofNat 0)) y31 y34)))))) y4)) y33),nx:=122,ok:=true,v:=(.bool true),out:=(no (no .nil (no (no .nil (no .nil (no .nil (lf (.cells 5 (nd (.int .i64 (.ofNat 4)) y31 y34)))))) .nil)) y35),nx':=123,wr:=[44,121]}
theorem k17:∀[F:Facts],Ab (Env.ofS Tryz.prog [] []) 1000000 o17=true:=by
 intro F
 kernel_rfl
theorem w17 (G:Nat→D→D):o17.Valid Tryz.prog G:=Ad.val (okE _ []) (w0 G) k17
def o18:Orc:=
 {f:=308,args:=[(.ptr 44 0),(.int .i64 (.ofNat 416)),(.func (.func 319) [] [])],part:=y36,nx:=125,ok:=true,v:=(.int .i64 (.ofNat 1)),out:=y38,nx':=125,wr:=[44]}
theorem k18:∀[F:Facts],Ab (Env.ofS Tryz.prog [] []) 1000000 o18=true:=by
 intro F
 kernel_rfl
theorem w18 (G:Nat→D→D):o18.Valid Tryz.prog G:=Ad.val (okE _ []) (w0 G) k18
def o19:Orc:=
 {f:=282,args:=[(.ptr 44 0)],part:=y36,nx:=125,ok:=true,v:=(.tuple []),out:=y38,nx':=127,wr:=[44]}
theorem k19:∀[F:Facts],Ab (Env.ofS Tryz.prog [o18] []) 1000000 o19=true:=by
 intro F
 kernel_rfl
theorem w19 (G:Nat→D→D):o19.Valid Tryz.prog G:=Ad.val (okE _ []) (.cons (w18 G) (w0 G)) k19
def o20:Orc:=
 {f:=284,args:=[(.slice 45 0 4 1),(.func (.func 285) [] [(.ptr 127 0)])],part:=(no (no (no (no (no (no (no (lf (.cells 5 (nd (.int .i64 (.ofNat 0)) y31 y8))) .nil) .nil) .nil) .nil) .nil) y5) y37),nx:=128,ok:=true,v:=(.bool true),out:=(no (no (no (no (no (no (no (lf (.cells 5 (nd (.int .i64 (.ofNat 1)) y31 y8))) .nil) .nil) .nil) .nil) .nil) .nil) y39),nx':=128,wr:=[44,127]}
theorem k20:∀[F:Facts],Ab (Env.ofS Tryz.prog [] []) 1000000 o20=true:=by
 intro F
 kernel_rfl
theorem w20 (G:Nat→D→D):o20.Valid Tryz.prog G:=Ad.val (okE _ []) (w0 G) k20
def o21:Orc:=
 {f:=308,args:=[(.ptr 44 0),(.int .i64 (.ofNat 416)),(.func (.func 319) [] [])],part:=y40,nx:=130,ok:=true,v:=(.int .i64 (.ofNat 1)),out:=y42,nx':=130,wr:=[44]}
theorem k21:∀[F:Facts],Ab (Env.ofS Tryz.prog [] []) 1000000 o21=true:=by
 intro F
 kernel_rfl
theorem w21 (G:Nat→D→D):o21.Valid Tryz.prog G:=Ad.val (okE _ []) (w0 G) k21
def o22:Orc:=
 {f:=282,args:=[(.ptr 44 0)],part:=y40,nx:=130,ok:=true,v:=(.tuple []),out:=y42,nx':=132,wr:=[44]}
theorem k22:∀[F:Facts],Ab (Env.ofS Tryz.prog [o21] []) 1000000 o22=true:=by
 intro F
 kernel_rfl
theorem w22 (G:Nat→D→D):o22.Valid Tryz.prog G:=Ad.val (okE _ []) (.cons (w21 G) (w0 G)) k22
def o23:Orc:=
 {f:=284,args:=[(.slice 45 0 4 1),(.func (.func 285) [] [(.ptr 132 0)])],part:=(no y6 (no (no .nil (no (no (no (no (lf (.cells 5 (nd (.int .i64 (.ofNat 0)) y31 y14))) .nil) .nil) .nil) y41)) .nil)),nx:=133,ok:=true,v:=(.bool true),out:=(no .nil (no (no .nil (no (no (no (no (lf (.cells 5 (nd (.int .i64 (.ofNat 2)) y31 y14))) .nil) .nil) .nil) y43)) .nil)),nx':=135,wr:=[44,132]}
theorem k23:∀[F:Facts],Ab (Env.ofS Tryz.prog [] []) 1000000 o23=true:=by
 intro F
 kernel_rfl
theorem w23 (G:Nat→D→D):o23.Valid Tryz.prog G:=Ad.val (okE _ []) (w0 G) k23
def o24:Orc:=
 {f:=308,args:=[(.ptr 44 0),(.int .i64 (.ofNat 416)),(.func (.func 319) [] [])],part:=y44,nx:=137,ok:=true,v:=(.int .i64 (.ofNat 1)),out:=y46,nx':=137,wr:=[44]}
theorem k24:∀[F:Facts],Ab (Env.ofS Tryz.prog [] []) 1000000 o24=true:=by
 intro F
 kernel_rfl
theorem w24 (G:Nat→D→D):o24.Valid Tryz.prog G:=Ad.val (okE _ []) (w0 G) k24
def o25:Orc:=
 {f:=282,args:=[(.ptr 44 0)],part:=y44,nx:=137,ok:=true,v:=(.tuple []),out:=y46,nx':=139,wr:=[44]}
theorem k25:∀[F:Facts],Ab (Env.ofS Tryz.prog [o24] []) 1000000 o25=true:=by
 intro F
 kernel_rfl
theorem w25 (G:Nat→D→D):o25.Valid Tryz.prog G:=Ad.val (okE _ []) (.cons (w24 G) (w0 G)) k25
def o26:Orc:=
 {f:=284,args:=[(.slice 45 0 4 1),(.func (.func 285) [] [(.ptr 139 0)])],part:=(no (no (no .nil (no .nil (no (no (no (lf (.cells 5 (nd (.int .i64 (.ofNat 0)) y31 y19))) .nil) .nil) .nil))) y5) y45),nx:=140,ok:=true,v:=(.bool true),out:=(no (no (no .nil (no .nil (no (no (no (lf (.cells 5 (nd (.int .i64 (.ofNat 1)) y31 y19))) .nil) .nil) .nil))) .nil) y47),nx':=140,wr:=[44,139]}
theorem k26:∀[F:Facts],Ab (Env.ofS Tryz.prog [] []) 1000000 o26=true:=by
 intro F
 kernel_rfl
theorem w26 (G:Nat→D→D):o26.Valid Tryz.prog G:=Ad.val (okE _ []) (w0 G) k26
def o27:Orc:=
 {f:=308,args:=[(.ptr 44 0),(.int .i64 (.ofNat 416)),(.func (.func 319) [] [])],part:=y48,nx:=142,ok:=true,v:=(.int .i64 (.ofNat 1)),out:=y50,nx':=142,wr:=[44]}
theorem k27:∀[F:Facts],Ab (Env.ofS Tryz.prog [] []) 1000000 o27=true:=by
 intro F
 kernel_rfl
theorem w27 (G:Nat→D→D):o27.Valid Tryz.prog G:=Ad.val (okE _ []) (w0 G) k27
def o28:Orc:=
 {f:=282,args:=[(.ptr 44 0)],part:=y48,nx:=142,ok:=true,v:=(.tuple []),out:=y50,nx':=144,wr:=[44]}
theorem k28:∀[F:Facts],Ab (Env.ofS Tryz.prog [o27] []) 1000000 o28=true:=by
 intro F
 kernel_rfl
theorem w28 (G:Nat→D→D):o28.Valid Tryz.prog G:=Ad.val (okE _ []) (.cons (w27 G) (w0 G)) k28
def o29:Orc:=
 {f:=284,args:=[(.slice 45 0 4 1),(.func (.func 285) [] [(.ptr 144 0)])],part:=(no y6 (no (no (no (no .nil (no (no (lf (.cells 5 (nd (.int .i64 (.ofNat 0)) y31 y24))) .nil) .nil)) .nil) y49) .nil)),nx:=145,ok:=true,v:=(.bool true),out:=(no .nil (no (no (no (no .nil (no (no (lf (.cells 5 (nd (.int .i64 (.ofNat 2)) y31 (nd (.int .i64 (.ofNat 16)) (lf (.int .i64 (.ofNat 21))) .nil)))) .nil) .nil)) .nil) y51) .nil)),nx':=147,wr:=[44,144]}
theorem k29:∀[F:Facts],Ab (Env.ofS Tryz.prog [] []) 1000000 o29=true:=by
 intro F
 kernel_rfl
theorem w29 (G:Nat→D→D):o29.Valid Tryz.prog G:=Ad.val (okE _ []) (w0 G) k29
def o30:Orc:=
 {f:=282,args:=[(.ptr 44 0)],part:=(no .nil (no y52 .nil)),nx:=149,ok:=true,v:=(.tuple []),out:=.nil,nx':=150,wr:=[]}
theorem k30:∀[F:Facts],Ab (Env.ofS Tryz.prog [] []) 1000000 o30=true:=by
 intro F
 kernel_rfl
theorem w30 (G:Nat→D→D):o30.Valid Tryz.prog G:=Ad.val (okE _ []) (w0 G) k30
def o31:Orc:=
 {f:=284,args:=[(.slice 45 0 4 1),(.func (.func 285) [] [(.ptr 150 0)])],part:=(no y6 (no y52 (no .nil (no (no .nil (no (no (lf (.cells 5 (nd (.int .i64 (.ofNat 0)) y31 y53))) .nil) .nil)) .nil)))),nx:=151,ok:=true,v:=(.bool true),out:=(no .nil (no y54 (no .nil (no (no .nil (no (no (lf (.cells 5 (nd (.int .i64 (.ofNat 4)) y31 y53))) .nil) .nil)) .nil)))),nx':=152,wr:=[44,150]}
theorem k31:∀[F:Facts],Ab (Env.ofS Tryz.prog [] []) 1000000 o31=true:=by
 intro F
 kernel_rfl
theorem w31 (G:Nat→D→D):o31.Valid Tryz.prog G:=Ad.val (okE _ []) (w0 G) k31
def o32:Orc:=
 {f:=308,args:=[(.ptr 44 0),(.int .i64 (.ofNat 416)),(.func (.func 319) [] [])],part:=y55,nx:=154,ok:=true,v:=(.int .i64 (.ofNat 1)),out:=y57,nx':=154,wr:=[44]}
theorem k32:∀[F:Facts],Ab (Env.ofS Tryz.prog [] []) 1000000 o32=true:=by
 intro F
 kernel_rfl
theorem w32 (G:Nat→D→D):o32.Valid Tryz.prog G:=Ad.val (okE _ []) (w0 G) k32
def o33:Orc:=
 {f:=282,args:=[(.ptr 44 0)],part:=y55,nx:=154,ok:=true,v:=(.tuple []),out:=y57,nx':=156,wr:=[44]}
theorem k33:∀[F:Facts],Ab (Env.ofS Tryz.prog [o32] []) 1000000 o33=true:=by
 intro F
 kernel_rfl
theorem w33 (G:Nat→D→D):o33.Valid Tryz.prog G:=Ad.val (okE _ []) (.cons (w32 G) (w0 G)) k33
def o34:Orc:=
 {f:=284,args:=[(.slice 45 0 4 1),(.func (.func 285) [] [(.ptr 156 0)])],part:=(no y6 (no (no .nil (no .nil (no y56 (no (no (lf (.cells 5 (nd (.int .i64 (.ofNat 0)) y58 y59))) .nil) .nil)))) .nil)),nx:=157,ok:=true,v:=(.bool true),out:=(no .nil (no (no .nil (no .nil (no y60 (no (no (lf (.cells 5 (nd (.int .i64 (.ofNat 4)) y58 y59))) .nil) .nil)))) .nil)),nx':=158,wr:=[44,156]}
theorem k34:∀[F:Facts],Ab (Env.ofS Tryz.prog [] []) 1000000 o34=true:=by
 intro F
 kernel_rfl
theorem w34 (G:Nat→D→D):o34.Valid Tryz.prog G:=Ad.val (okE _ []) (w0 G) k34
def o35:Orc:=
 {f:=308,args:=[(.ptr 44 0),(.int .i64 (.ofNat 416)),(.func (.func 319) [] [])],part:=y61,nx:=160,ok:=true,v:=(.int .i64 (.ofNat 1)),out:=y63,nx':=160,wr:=[44]}
theorem k35:∀[F:Facts],Ab (Env.ofS Tryz.prog [] []) 1000000 o35=true:=by
 intro F
 kernel_rfl
theorem w35 (G:Nat→D→D):o35.Valid Tryz.prog G:=Ad.val (okE _ []) (w0 G) k35
def o36:Orc:=
 {f:=282,args:=[(.ptr 44 0)],part:=y61,nx:=160,ok:=true,v:=(.tuple []),out:=y63,nx':=162,wr:=[44]}
theorem k36:∀[F:Facts],Ab (Env.ofS Tryz.prog [o35] []) 1000000 o36=true:=by
 intro F
 kernel_rfl
theorem w36 (G:Nat→D→D):o36.Valid Tryz.prog G:=Ad.val (okE _ []) (.cons (w35 G) (w0 G)) k36
def o37:Orc:=
 {f:=284,args:=[(.slice 45 0 4 1),(.func (.func 285) [] [(.ptr 162 0)])],part:=(no y6 (no y62 (no (no (no (no .nil (no (lf (.cells 5 (nd (.int .i64 (.ofNat 0)) y64 y59))) .nil)) .nil) .nil) .nil))),nx:=163,ok:=true,v:=(.bool true),out:=(no .nil (no y65 (no (no (no (no .nil (no (lf (.cells 5 (nd (.int .i64 (.ofNat 1)) y64 y59))) .nil)) .nil) .nil) .nil))),nx':=163,wr:=[44,162]}
theorem k37:∀[F:Facts],Ab (Env.ofS Tryz.prog [] []) 1000000 o37=true:=by
 intro F
 kernel_rfl
theorem w37 (G:Nat→D→D):o37.Valid Tryz.prog G:=Ad.val (okE _ []) (w0 G) k37
def o38:Orc:=
 {f:=308,args:=[(.ptr 44 0),(.int .i64 (.ofNat 416)),(.func (.func 319) [] [])],part:=y66,nx:=165,ok:=true,v:=(.int .i64 (.ofNat 1)),out:=y68,nx':=165,wr:=[44]}
theorem k38:∀[F:Facts],Ab (Env.ofS Tryz.prog [] []) 1000000 o38=true:=by
 intro F
 kernel_rfl
theorem w38 (G:Nat→D→D):o38.Valid Tryz.prog G:=Ad.val (okE _ []) (w0 G) k38
def o39:Orc:=
 {f:=282,args:=[(.ptr 44 0)],part:=y66,nx:=165,ok:=true,v:=(.tuple []),out:=y68,nx':=167,wr:=[44]}
theorem k39:∀[F:Facts],Ab (Env.ofS Tryz.prog [o38] []) 1000000 o39=true:=by
 intro F
 kernel_rfl
theorem w39 (G:Nat→D→D):o39.Valid Tryz.prog G:=Ad.val (okE _ []) (.cons (w38 G) (w0 G)) k39
def o40:Orc:=
 {f:=284,args:=[(.slice 45 0 4 1),(.func (.func 285) [] [(.ptr 167 0)])],part:=(no (no (no (no .nil (no (no .nil (no (lf (.cells 5 (nd (.int .i64 (.ofNat 0)) y64 y8))) .nil)) .nil)) .nil) y5) y67),nx:=168,ok:=true,v:=(.bool true),out:=(no (no (no (no .nil (no (no .nil (no (lf (.cells 5 (nd (.int .i64 (.ofNat 1)) y64 y8))) .nil)) .nil)) .nil) .nil) y69),nx':=168,wr:=[44,167]}
theorem k40:∀[F:Facts],Ab (Env.ofS Tryz.prog [] []) 1000000 o40=true:=by
 intro F
 kernel_rfl
theorem w40 (G:Nat→D→D):o40.Valid Tryz.prog G:=Ad.val (okE _ []) (w0 G) k40
def o41:Orc:=
 {f:=308,args:=[(.ptr 44 0),(.int .i64 (.ofNat 416)),(.func (.func 319) [] [])],part:=y70,nx:=170,ok:=true,v:=(.int .i64 (.ofNat 1)),out:=y72,nx':=170,wr:=[44]}
theorem k41:∀[F:Facts],Ab (Env.ofS Tryz.prog [] []) 1000000 o41=true:=by
 intro F
 kernel_rfl
theorem w41 (G:Nat→D→D):o41.Valid Tryz.prog G:=Ad.val (okE _ []) (w0 G) k41
def o42:Orc:=
 {f:=282,args:=[(.ptr 44 0)],part:=y70,nx:=170,ok:=true,v:=(.tuple []),out:=y72,nx':=172,wr:=[44]}
theorem k42:∀[F:Facts],Ab (Env.ofS Tryz.prog [o41] []) 1000000 o42=true:=by
 intro F
 kernel_rfl
theorem w42 (G:Nat→D→D):o42.Valid Tryz.prog G:=Ad.val (okE _ []) (.cons (w41 G) (w0 G)) k42
def o43:Orc:=
 {f:=284,args:=[(.slice 45 0 4 1),(.func (.func 285) [] [(.ptr 172 0)])],part:=(no y6 (no (no .nil (no .nil (no (nd y71 .nil (no (lf (.cells 5 (nd (.int .i64 (.ofNat 0)) y64 y14))) .nil)) .nil))) .nil)),nx:=173,ok:=true,v:=(.bool true),out:=(no .nil (no (no .nil (no .nil (no (nd y73 .nil (no (lf (.cells 5 (nd (.int .i64 (.ofNat 4)) y64 y14))) .nil)) .nil))) .nil)),nx':=174,wr:=[44,172]}
theorem k43:∀[F:Facts],Ab (Env.ofS Tryz.prog [] []) 1000000 o43=true:=by
 intro F
 kernel_rfl
theorem w43 (G:Nat→D→D):o43.Valid Tryz.prog G:=Ad.val (okE _ []) (w0 G) k43
def o44:Orc:=
 {f:=308,args:=[(.ptr 44 0),(.int .i64 (.ofNat 416)),(.func (.func 319) [] [])],part:=y74,nx:=176,ok:=true,v:=(.int .i64 (.ofNat 3)),out:=y76,nx':=176,wr:=[44]}
theorem k44:∀[F:Facts],Ab (Env.ofS Tryz.prog [] []) 1000000 o44=true:=by
 intro F
 kernel_rfl
theorem w44 (G:Nat→D→D):o44.Valid Tryz.prog G:=Ad.val (okE _ []) (w0 G) k44
def o45:Orc:=
 {f:=282,args:=[(.ptr 44 0)],part:=y74,nx:=176,ok:=true,v:=(.tuple []),out:=y76,nx':=178,wr:=[44]}
theorem k45:∀[F:Facts],Ab (Env.ofS Tryz.prog [o44] []) 1000000 o45=true:=by
 intro F
 kernel_rfl
theorem w45 (G:Nat→D→D):o45.Valid Tryz.prog G:=Ad.val (okE _ []) (.cons (w44 G) (w0 G)) k45
def o46:Orc:=
 {f:=284,args:=[(.slice 45 0 4 1),(.func (.func 285) [] [(.ptr 178 0)])],part:=(no y6 (no y75 (no (no (no .nil (no .nil (no (lf (.cells 5 (nd (.int .i64 (.ofNat 0)) y77 y32))) .nil))) .nil) .nil))),nx:=179,ok:=true,v:=(.bool true),out:=(no .nil (no y78 (no (no (no .nil (no .nil (no (lf (.cells 5 (nd (.int .i64 (.ofNat 1)) y77 y32))) .nil))) .nil) .nil))),nx':=179,wr:=[44,178]}
theorem k46:∀[F:Facts],Ab (Env.ofS Tryz.prog [] []) 1000000 o46=true:=by
 intro F
 kernel_rfl
theorem w46 (G:Nat→D→D):o46.Valid Tryz.prog G:=Ad.val (okE _ []) (w0 G) k46
def o47:Orc:=
 {f:=282,args:=[(.ptr 44 0)],part:=(no .nil (no y78 .nil)),nx:=181,ok:=true,v:=(.tuple []),out:=.nil,nx':=182,wr:=[]}
theorem k47:∀[F:Facts],Ab (Env.ofS Tryz.prog [] []) 1000000 o47=true:=by
 intro F
 kernel_rfl
theorem w47 (G:Nat→D→D):o47.Valid Tryz.prog G:=Ad.val (okE _ []) (w0 G) k47
def o48:Orc:=
 {f:=284,args:=[(.slice 45 0 4 1),(.func (.func 285) [] [(.ptr 182 0)])],part:=(no y6 (no y78 (no .nil (no (no .nil (no .nil (no (lf (.cells 5 (nd (.int .i64 (.ofNat 0)) y77 y8))) .nil))) .nil)))),nx:=183,ok:=true,v:=(.bool true),out:=(no .nil (no y79 (no .nil (no (no .nil (no .nil (no (lf (.cells 5 (nd (.int .i64 (.ofNat 4)) y77 y8))) .nil))) .nil)))),nx':=184,wr:=[44,182]}
theorem k48:∀[F:Facts],Ab (Env.ofS Tryz.prog [] []) 1000000 o48=true:=by
 intro F
 kernel_rfl
theorem w48 (G:Nat→D→D):o48.Valid Tryz.prog G:=Ad.val (okE _ []) (w0 G) k48
def o49:Orc:=
 {f:=308,args:=[(.ptr 44 0),(.int .i64 (.ofNat 416)),(.func (.func 319) [] [])],part:=y80,nx:=186,ok:=true,v:=(.int .i64 (.ofNat 1)),out:=y82,nx':=186,wr:=[44]}
theorem k49:∀[F:Facts],Ab (Env.ofS Tryz.prog [] []) 1000000 o49=true:=by
 intro F
 kernel_rfl
theorem w49 (G:Nat→D→D):o49.Valid Tryz.prog G:=Ad.val (okE _ []) (w0 G) k49
def o50:Orc:=
 {f:=282,args:=[(.ptr 44 0)],part:=y80,nx:=186,ok:=true,v:=(.tuple []),out:=y82,nx':=188,wr:=[44]}
theorem k50:∀[F:Facts],Ab (Env.ofS Tryz.prog [o49] []) 1000000 o50=true:=by
 intro F
 kernel_rfl
theorem w50 (G:Nat→D→D):o50.Valid Tryz.prog G:=Ad.val (okE _ []) (.cons (w49 G) (w0 G)) k50
def o51:Orc:=
 {f:=284,args:=[(.slice 45 0 4 1),(.func (.func 285) [] [(.ptr 188 0)])],part:=(no y6 (no (no .nil (no .nil (no y81 (no .nil (no (lf (.cells 5 (nd (.int .i64 (.ofNat 0)) y77 y83))) .nil))))) .nil)),nx:=189,ok:=true,v:=(.bool true),out:=(no .nil (no (no .nil (no .nil (no y84 (no .nil (no (lf (.cells 5 (nd (.int .i64 (.ofNat 1)) y77 y83))) .nil))))) .nil)),nx':=189,wr:=[44,188]}
theorem k51:∀[F:Facts],Ab (Env.ofS Tryz.prog [] []) 1000000 o51=true:=by
 intro F
 kernel_rfl
theorem w51 (G:Nat→D→D):o51.Valid Tryz.prog G:=Ad.val (okE _ []) (w0 G) k51
def o52:Orc:=
 {f:=308,args:=[(.ptr 44 0),(.int .i64 (.ofNat 416)),(.func (.func 319) [] [])],part:=y85,nx:=191,ok:=true,v:=(.int .i64 (.ofNat 1)),out:=y87,nx':=191,wr:=[44]}
theorem k52:∀[F:Facts],Ab (Env.ofS Tryz.prog [] []) 1000000 o52=true:=by
 intro F
 kernel_rfl
theorem w52 (G:Nat→D→D):o52.Valid Tryz.prog G:=Ad.val (okE _ []) (w0 G) k52
def o53:Orc:=
 {f:=282,args:=[(.ptr 44 0)],part:=y85,nx:=191,ok:=true,v:=(.tuple []),out:=y87,nx':=193,wr:=[44]}
theorem k53:∀[F:Facts],Ab (Env.ofS Tryz.prog [o52] []) 1000000 o53=true:=by
 intro F
 kernel_rfl
theorem w53 (G:Nat→D→D):o53.Valid Tryz.prog G:=Ad.val (okE _ []) (.cons (w52 G) (w0 G)) k53
def o54:Orc:=
 {f:=284,args:=[(.slice 45 0 4 1),(.func (.func 285) [] [(.ptr 193 0)])],part:=(no (no .nil (no (no (no (no (no .nil (lf (.cells 5 (nd (.int .i64 (.ofNat 0)) y77 y88)))) .nil) .nil) .nil) y4)) y86),nx:=194,ok:=true,v:=(.bool true),out:=(no (no .nil (no (no (no (no (no .nil (lf (.cells 5 (nd (.int .i64 (.ofNat 2)) y77 y89)))) .nil) .nil) .nil) .nil)) y90),nx':=196,wr:=[44,193]}
theorem k54:∀[F:Facts],Ab (Env.ofS Tryz.prog [] []) 1000000 o54=true:=by
 intro F
 kernel_rfl
theorem w54 (G:Nat→D→D):o54.Valid Tryz.prog G:=Ad.val (okE _ []) (w0 G) k54
def o55:Orc:=
 {f:=308,args:=[(.ptr 44 0),(.int .i64 (.ofNat 416)),(.func (.func 319) [] [])],part:=y91,nx:=198,ok:=true,v:=(.int .i64 (.ofNat 1)),out:=y93,nx':=198,wr:=[44]}
theorem k55:∀[F:Facts],Ab (Env.ofS Tryz.prog [] []) 1000000 o55=true:=by
 intro F
 kernel_rfl
theorem w55 (G:Nat→D→D):o55.Valid Tryz.prog G:=Ad.val (okE _ []) (w0 G) k55
def o56:Orc:=
 {f:=282,args:=[(.ptr 44 0)],part:=y91,nx:=198,ok:=true,v:=(.tuple []),out:=y93,nx':=200,wr:=[44]}
theorem k56:∀[F:Facts],Ab (Env.ofS Tryz.prog [o55] []) 1000000 o56=true:=by
 intro F
 kernel_rfl
theorem w56 (G:Nat→D→D):o56.Valid Tryz.prog G:=Ad.val (okE _ []) (.cons (w55 G) (w0 G)) k56
end Go.Proofs.YtmjeljjkhblgeaaGreatDoor.familyExamples

