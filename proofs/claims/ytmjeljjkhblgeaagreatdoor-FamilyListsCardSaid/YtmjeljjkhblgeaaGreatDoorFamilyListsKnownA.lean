/- What is proved: that certain calls which the law FamilyLists makes come to the results that are written here (part 1 of 10). Conditions: the memory that such a call reaches is as written here; the kernel runs the evaluator over each. -/
import Derived.Test.YtmjeljjkhblgeaaGreatDoorBeH
import Derived.Test.YtmjeljjkhblgeaaGreatDoorChecked
import Derived.KernelRfl
set_option linter.unusedVariables false
set_option linter.unusedSectionVars false
set_option linter.unusedSimpArgs false
namespace Go.Proofs.YtmjeljjkhblgeaaGreatDoor.familyLists
open Go.AE
theorem okE (l:List Orc) (m:List Sm):∀[U:Unk],U.K=(Env.of Tryz.prog).kinds→OK (Env.ofS Tryz.prog l m):=fun {U} h=>OK.of (U:=U) (P:=Tryz.prog) (Checked.mixed Tryz.checked) (by kernel_rfl) h
theorem w0 (G:Nat→D→D):Af (Env.ofS Tryz.prog [] []) G:=Af.none (U:=If)
def y1:Ad:=.cells 4 (nd (.func (.func 278) [(.ptr 44 0)] []) (nd (.func (.func 279) [(.ptr 44 0)] []) (lf (.func (.func 281) [(.ptr 44 0)] [])) .nil) (lf (.func (.func 280) [(.ptr 44 0)] [])))
def y2:T Ad:=lf y1
def y3:T Ad:=no y2 .nil
def y4:T Ad:=no .nil y3
def y5:T Ad:=no .nil y4
def y6:T Ad:=no .nil y5
def y7:T AV:=nd (.str 0 0) (lf (.int .i64 (.ofNat 3))) .nil
def y8:T AV:=nd (.int .i64 (.ofNat 0)) (lf (.int .i64 (.ofNat 9))) .nil
def y9:AV:=.str 416 26887877872370717628590333463849519926503264312258379940856421635744580367824221889179817294009630211432797437353707483025058929452278489868087650059092832354817368261544714385300335013591013866308391433740199927253365051263882943151356524458138388805058112474480351413566232195257811099896715668327051941038148333294995140874727318138398882760034743565036859432718734059979577822544027156949977536016364049463339817047282323501873606293163820234173848431719605017806305269152865293837898736932882554403361590967353421672556197806209672847532888591114541317994844526682664113411491011284097398438011815436313987057844298154227138480988875024642025398990748550908762126844680827003207618114001531926284816845581561610180253977900018258815109000244545678487062537441938024077312230741412667678059280174214633292376488353007522931779902533601444445411093754577616917260612600229433478782192676404901119438283657431858126635412007114229414769886882724917644640947614673679508015983881492240718016837284464
def y10:T Ad:=no .nil (no (lf (.cells 4 (nd y9 (nd (.int .i64 (.ofNat 47)) (lf (.int .i64 (.ofNat 14))) .nil) (lf (.int .i64 (.ofNat 3)))))) .nil)
def y11:T Ad:=no .nil (no (no .nil y10) .nil)
def y12:T Ad:=no (no .nil (no .nil (no (lf (.cells 4 (nd y9 (nd (.int .i64 (.ofNat 48)) (lf (.int .i64 (.ofNat 15))) .nil) (lf (.int .i64 (.ofNat 3)))))) .nil))) .nil
def y13:T Ad:=no .nil y12
def y14:T AV:=nd (.int .i64 (.ofNat 0)) (lf (.int .i64 (.ofNat 15))) .nil
def y15:T Ad:=no (no .nil (no .nil (no (lf (.cells 4 (nd y9 (nd (.int .i64 (.ofNat 49)) (lf (.int .i64 (.ofNat 16))) .nil) (lf (.int .i64 (.ofNat 3)))))) .nil))) .nil
def y16:T Ad:=no .nil y15
def y17:T Ad:=no (lf (.cells 4 (nd y9 (nd (.int .i64 (.ofNat 50)) (lf (.int .i64 (.ofNat 17))) .nil) (lf (.int .i64 (.ofNat 3)))))) .nil
def y18:T Ad:=no .nil (no (no .nil (no .nil y17)) .nil)
def y19:T AV:=nd (.int .i64 (.ofNat 0)) (lf (.int .i64 (.ofNat 17))) .nil
def y20:T Ad:=no (lf (.cells 4 (nd y9 (nd (.int .i64 (.ofNat 53)) (lf (.int .i64 (.ofNat 20))) .nil) (lf (.int .i64 (.ofNat 3)))))) .nil
def y21:T Ad:=no .nil (no (no .nil (no .nil y20)) .nil)
def y22:T Ad:=no (no .nil (no .nil (no (lf (.cells 4 (nd y9 (nd (.int .i64 (.ofNat 54)) (lf (.int .i64 (.ofNat 21))) .nil) (lf (.int .i64 (.ofNat 3)))))) .nil))) .nil
def y23:T Ad:=no .nil y22
def y24:T AV:=nd (.int .i64 (.ofNat 0)) (lf (.int .i64 (.ofNat 21))) .nil
def y25:T Ad:=no (no .nil (no .nil (no (lf (.cells 4 (nd y9 (nd (.int .i64 (.ofNat 57)) (lf (.int .i64 (.ofNat 24))) .nil) (lf (.int .i64 (.ofNat 3)))))) .nil))) .nil
def y26:T AV:=nd (.int .i64 (.ofNat 0)) (lf (.int .i64 (.ofNat 24))) .nil
def y27:T Ad:=no (no .nil (no .nil (no (lf (.cells 4 (nd y9 (nd (.int .i64 (.ofNat 58)) (lf (.int .i64 (.ofNat 25))) .nil) (lf (.int .i64 (.ofNat 3)))))) .nil))) .nil
def y28:T Ad:=no .nil y27
def y29:T Ad:=no (no .nil (no .nil (no (lf (.cells 4 (nd y9 (nd (.int .i64 (.ofNat 61)) (lf (.int .i64 (.ofNat 3))) .nil) (lf (.int .i64 (.ofNat 4)))))) .nil))) .nil
def y30:T Ad:=no .nil y29
def y31:T AV:=nd (.str 0 0) (lf (.int .i64 (.ofNat 4))) .nil
def y32:T AV:=nd (.int .i64 (.ofNat 0)) (lf (.int .i64 (.ofNat 3))) .nil
def y33:T Ad:=no (no .nil (no .nil (no (lf (.cells 4 (nd y9 (nd (.int .i64 (.ofNat 65)) (lf (.int .i64 (.ofNat 7))) .nil) (lf (.int .i64 (.ofNat 4)))))) .nil))) .nil
def y34:T AV:=nd (.int .i64 (.ofNat 0)) (lf (.int .i64 (.ofNat 7))) .nil
def y35:T Ad:=no (no .nil (no .nil (no (lf (.cells 4 (nd y9 (nd (.int .i64 (.ofNat 66)) (lf (.int .i64 (.ofNat 8))) .nil) (lf (.int .i64 (.ofNat 4)))))) .nil))) .nil
def y36:T Ad:=no .nil y35
def y37:T Ad:=no (no .nil (no .nil (no (lf (.cells 4 (nd y9 (nd (.int .i64 (.ofNat 67)) (lf (.int .i64 (.ofNat 9))) .nil) (lf (.int .i64 (.ofNat 4)))))) .nil))) .nil
def y38:T Ad:=no .nil y37
def y39:T Ad:=no (no .nil (no .nil (no (lf (.cells 4 (nd y9 (nd (.int .i64 (.ofNat 72)) (lf (.int .i64 (.ofNat 14))) .nil) (lf (.int .i64 (.ofNat 4)))))) .nil))) .nil
def y40:T Ad:=no .nil y39
def y41:T Ad:=no (lf (.cells 4 (nd y9 (nd (.int .i64 (.ofNat 73)) (lf (.int .i64 (.ofNat 15))) .nil) (lf (.int .i64 (.ofNat 4)))))) .nil
def y42:T Ad:=no .nil (no (no .nil (no .nil y41)) .nil)
def y43:T Ad:=no (lf (.cells 4 (nd y9 (nd (.int .i64 (.ofNat 74)) (lf (.int .i64 (.ofNat 16))) .nil) (lf (.int .i64 (.ofNat 4)))))) .nil
def y44:T Ad:=no .nil (no (no .nil (no .nil y43)) .nil)
def y45:T Ad:=no (no .nil (no .nil (no (lf (.cells 4 (nd y9 (nd (.int .i64 (.ofNat 75)) (lf (.int .i64 (.ofNat 17))) .nil) (lf (.int .i64 (.ofNat 4)))))) .nil))) .nil
def y46:T Ad:=no .nil y45
def y47:T Ad:=no (no .nil (no .nil (no (lf (.cells 4 (nd y9 (nd (.int .i64 (.ofNat 78)) (lf (.int .i64 (.ofNat 20))) .nil) (lf (.int .i64 (.ofNat 4)))))) .nil))) .nil
def y48:T Ad:=no .nil y47
def y49:T Ad:=no .nil (no (lf (.cells 4 (nd y9 (nd (.int .i64 (.ofNat 79)) (lf (.int .i64 (.ofNat 21))) .nil) (lf (.int .i64 (.ofNat 4)))))) .nil)
def y50:T Ad:=no .nil (no (no .nil y49) .nil)
def y51:T Ad:=no .nil (no (lf (.cells 4 (nd y9 (nd (.int .i64 (.ofNat 81)) (lf (.int .i64 (.ofNat 23))) .nil) (lf (.int .i64 (.ofNat 4)))))) .nil)
def y52:T Ad:=no .nil y51
def y53:T AV:=nd (.int .i64 (.ofNat 0)) (lf (.int .i64 (.ofNat 23))) .nil
def y54:T Ad:=no .nil (no .nil (no (lf (.cells 4 (nd y9 (nd (.int .i64 (.ofNat 82)) (lf (.int .i64 (.ofNat 24))) .nil) (lf (.int .i64 (.ofNat 4)))))) .nil))
def y55:T Ad:=no .nil (no y54 .nil)
def y56:T Ad:=lf (.cells 4 (nd y9 (nd (.int .i64 (.ofNat 83)) (lf (.int .i64 (.ofNat 1))) .nil) (lf (.int .i64 (.ofNat 5)))))
def y57:T Ad:=no .nil (no (no .nil (no .nil (no y56 .nil))) .nil)
def y58:T AV:=nd (.str 0 0) (lf (.int .i64 (.ofNat 5))) .nil
def y59:T AV:=nd (.int .i64 (.ofNat 0)) (lf (.int .i64 (.ofNat 1))) .nil
def y60:T Ad:=lf (.cells 4 (nd y9 (nd (.int .i64 (.ofNat 84)) (lf (.int .i64 (.ofNat 2))) .nil) (lf (.int .i64 (.ofNat 5)))))
def y61:T Ad:=no .nil (no (no .nil (no .nil (no y60 .nil))) .nil)
def y62:T Ad:=no .nil (no .nil (no (lf (.cells 4 (nd y9 (nd (.int .i64 (.ofNat 85)) (lf (.int .i64 (.ofNat 1))) .nil) (lf (.int .i64 (.ofNat 6)))))) .nil))
def y63:T Ad:=no .nil (no y62 .nil)
def y64:T AV:=nd (.str 0 0) (lf (.int .i64 (.ofNat 6))) .nil
def y65:T Ad:=no .nil (no .nil (no (lf (.cells 4 (nd y9 (nd (.int .i64 (.ofNat 92)) (lf (.int .i64 (.ofNat 8))) .nil) (lf (.int .i64 (.ofNat 6)))))) .nil))
def y66:T Ad:=no .nil (no y65 .nil)
def y67:T Ad:=no (no .nil (no .nil (no (lf (.cells 4 (nd y9 (nd (.int .i64 (.ofNat 93)) (lf (.int .i64 (.ofNat 9))) .nil) (lf (.int .i64 (.ofNat 6)))))) .nil))) .nil
def y68:T Ad:=no .nil y67
def y69:T Ad:=no (no .nil (no .nil (no (lf (.cells 4 (nd y9 (nd (.int .i64 (.ofNat 98)) (lf (.int .i64 (.ofNat 14))) .nil) (lf (.int .i64 (.ofNat 6)))))) .nil))) .nil
def y70:T Ad:=no .nil y69
def y71:Ad:=.cells 4 (nd y9 (nd (.int .i64 (.ofNat 99)) (lf (.int .i64 (.ofNat 15))) .nil) (lf (.int .i64 (.ofNat 6))))
def y72:T Ad:=no .nil (no (no .nil (no .nil (no (lf y71) .nil))) .nil)
def y73:Ad:=.cells 4 (nd y9 (nd (.int .i64 (.ofNat 100)) (lf (.int .i64 (.ofNat 16))) .nil) (lf (.int .i64 (.ofNat 6))))
def y74:T Ad:=no .nil (no (no .nil (no .nil (no (lf y73) .nil))) .nil)
def y75:T Ad:=no .nil (no .nil (no (lf (.cells 4 (nd y9 (nd (.int .i64 (.ofNat 103)) (lf (.int .i64 (.ofNat 3))) .nil) (lf (.int .i64 (.ofNat 7)))))) .nil))
def y76:T Ad:=no .nil (no y75 .nil)
def y77:T AV:=nd (.str 0 0) (lf (.int .i64 (.ofNat 7))) .nil
def y78:T Ad:=no .nil (no .nil (no (lf (.cells 4 (nd y9 (nd (.int .i64 (.ofNat 109)) (lf (.int .i64 (.ofNat 9))) .nil) (lf (.int .i64 (.ofNat 7)))))) .nil))
def y79:T Ad:=no .nil (no .nil (no (lf (.cells 4 (nd y9 (nd (.int .i64 (.ofNat 110)) (lf (.int .i64 (.ofNat 10))) .nil) (lf (.int .i64 (.ofNat 7)))))) .nil))
def y80:T Ad:=no .nil (no y79 .nil)
def y81:T Ad:=lf (.cells 4 (nd y9 (nd (.int .i64 (.ofNat 111)) (lf (.int .i64 (.ofNat 11))) .nil) (lf (.int .i64 (.ofNat 7)))))
def y82:T Ad:=no .nil (no (no .nil (no .nil (no y81 .nil))) .nil)
def y83:T AV:=nd (.int .i64 (.ofNat 0)) (lf (.int .i64 (.ofNat 11))) .nil
def y84:T Ad:=lf (.cells 4 (nd y9 (nd (.int .i64 (.ofNat 115)) (lf (.int .i64 (.ofNat 15))) .nil) (lf (.int .i64 (.ofNat 7)))))
def y85:T Ad:=no .nil (no (no .nil (no .nil (no y84 .nil))) .nil)
def y86:T Ad:=no (no .nil (no .nil (no (lf (.cells 4 (nd y9 (nd (.int .i64 (.ofNat 116)) (lf (.int .i64 (.ofNat 16))) .nil) (lf (.int .i64 (.ofNat 7)))))) .nil))) .nil
def y87:T Ad:=no .nil y86
def y88:T AV:=nd (.int .i64 (.ofNat 0)) (lf (.int .i64 (.ofNat 16))) .nil
def y89:T AV:=nd (.int .i64 (.ofNat 16)) (lf (.int .i64 (.ofNat 16))) .nil
def y90:T Ad:=no (no .nil (no .nil (no (lf (.cells 4 (nd y9 (nd (.int .i64 (.ofNat 118)) (lf (.int .i64 (.ofNat 18))) .nil) (lf (.int .i64 (.ofNat 7)))))) .nil))) .nil
def y91:T Ad:=no .nil y90
def y92:T Ad:=no .nil (no (lf (.cells 4 (nd y9 (nd (.int .i64 (.ofNat 119)) (lf (.int .i64 (.ofNat 19))) .nil) (lf (.int .i64 (.ofNat 7)))))) .nil)
def y93:T Ad:=no .nil (no (no .nil y92) .nil)
def y94:T AV:=nd (.int .i64 (.ofNat 0)) (lf (.int .i64 (.ofNat 19))) .nil
def y95:T Ad:=no .nil (no (lf (.cells 4 (nd y9 (nd (.int .i64 (.ofNat 120)) (lf (.int .i64 (.ofNat 20))) .nil) (lf (.int .i64 (.ofNat 7)))))) .nil)
def y96:T Ad:=no .nil y95
def y97:T AV:=nd (.int .i64 (.ofNat 0)) (lf (.int .i64 (.ofNat 20))) .nil
def y98:T Ad:=no .nil (no .nil (no (lf (.cells 4 (nd y9 (nd (.int .i64 (.ofNat 122)) (lf (.int .i64 (.ofNat 22))) .nil) (lf (.int .i64 (.ofNat 7)))))) .nil))
def y99:T Ad:=no y98 .nil
def OX:T AV:=nd (.int .i64 (.ofNat 0)) (lf (.int .i64 (.ofNat 22))) .nil
def bW:T AV:=nd (.int .i64 (.ofNat 65535)) (lf (.int .i64 (.ofNat 22))) .nil
def ZQ:T Ad:=no (no .nil (no .nil (no (lf (.cells 4 (nd y9 (nd (.int .i64 (.ofNat 127)) (lf (.int .i64 (.ofNat 27))) .nil) (lf (.int .i64 (.ofNat 7)))))) .nil))) .nil
def QY:T AV:=nd (.int .i64 (.ofNat 0)) (lf (.int .i64 (.ofNat 27))) .nil
def iY:T Ad:=no (no .nil (no .nil (no (lf (.cells 4 (nd y9 (nd (.int .i64 (.ofNat 128)) (lf (.int .i64 (.ofNat 28))) .nil) (lf (.int .i64 (.ofNat 7)))))) .nil))) .nil
def f9:T Ad:=no .nil iY
def gO:T Ad:=no (no .nil (no .nil (no (lf (.cells 4 (nd y9 (nd (.int .i64 (.ofNat 131)) (lf (.int .i64 (.ofNat 3))) .nil) (lf (.int .i64 (.ofNat 8)))))) .nil))) .nil
def iF:T Ad:=no .nil gO
def F5:T AV:=nd (.str 0 0) (lf (.int .i64 (.ofNat 8))) .nil
def VI:T Ad:=no (no .nil (no .nil (no (lf (.cells 4 (nd y9 (nd (.int .i64 (.ofNat 135)) (lf (.int .i64 (.ofNat 7))) .nil) (lf (.int .i64 (.ofNat 8)))))) .nil))) .nil
def gJ:T Ad:=no (no .nil (no .nil (no (lf (.cells 4 (nd y9 (nd (.int .i64 (.ofNat 136)) (lf (.int .i64 (.ofNat 8))) .nil) (lf (.int .i64 (.ofNat 8)))))) .nil))) .nil
def eD:T Ad:=no .nil gJ
def iD:T Ad:=no (no .nil (no .nil (no (lf (.cells 4 (nd y9 (nd (.int .i64 (.ofNat 137)) (lf (.int .i64 (.ofNat 9))) .nil) (lf (.int .i64 (.ofNat 8)))))) .nil))) .nil
def fh:T Ad:=no .nil iD
def bk:T Ad:=no (no .nil (no .nil (no (lf (.cells 4 (nd y9 (nd (.int .i64 (.ofNat 141)) (lf (.int .i64 (.ofNat 13))) .nil) (lf (.int .i64 (.ofNat 8)))))) .nil))) .nil
def kx:T Ad:=no .nil bk
def eL:T Ad:=no .nil (no .nil (no (lf (.cells 4 (nd y9 (nd (.int .i64 (.ofNat 142)) (lf (.int .i64 (.ofNat 14))) .nil) (lf (.int .i64 (.ofNat 8)))))) .nil))
def dy:T Ad:=no .nil (no eL .nil)
def bo:T AV:=nd (.int .i64 (.ofNat 0)) (lf (.int .i64 (.ofNat 14))) .nil
def eO:T Ad:=no .nil (no .nil (no (lf (.cells 4 (nd y9 (nd (.int .i64 (.ofNat 144)) (lf (.int .i64 (.ofNat 16))) .nil) (lf (.int .i64 (.ofNat 8)))))) .nil))
def cU:T AV:=nd (.int .i64 (.ofNat 16)) (lf (.int .i64 (.ofNat 14))) .nil
def fN:T Ad:=no .nil (no eO .nil)
def eH:T Ad:=no (no .nil (no .nil (no (lf (.cells 4 (nd y9 (nd (.int .i64 (.ofNat 145)) (lf (.int .i64 (.ofNat 17))) .nil) (lf (.int .i64 (.ofNat 8)))))) .nil))) .nil
def d6:T Ad:=no .nil eH
def YU:T Ad:=no (no .nil (no .nil (no (lf (.cells 4 (nd y9 (nd (.int .i64 (.ofNat 146)) (lf (.int .i64 (.ofNat 18))) .nil) (lf (.int .i64 (.ofNat 8)))))) .nil))) .nil
def S2:T AV:=nd (.int .i64 (.ofNat 0)) (lf (.int .i64 (.ofNat 18))) .nil
def ij:T Ad:=no .nil (no (lf (.cells 4 (nd y9 (nd (.int .i64 (.ofNat 148)) (lf (.int .i64 (.ofNat 20))) .nil) (lf (.int .i64 (.ofNat 8)))))) .nil)
def bX:T Ad:=no (no .nil ij) .nil
def iU:T Ad:=no .nil (no (lf (.cells 4 (nd y9 (nd (.int .i64 (.ofNat 151)) (lf (.int .i64 (.ofNat 23))) .nil) (lf (.int .i64 (.ofNat 8)))))) .nil)
def d9:T Ad:=no .nil iU
def cG:T Ad:=no .nil (no .nil (no (lf (.cells 4 (nd y9 (nd (.int .i64 (.ofNat 152)) (lf (.int .i64 (.ofNat 24))) .nil) (lf (.int .i64 (.ofNat 8)))))) .nil))
def gH:T Ad:=no .nil (no cG .nil)
def iL:Ad:=.cells 4 (nd y9 (nd (.int .i64 (.ofNat 155)) (lf (.int .i64 (.ofNat 3))) .nil) (lf (.int .i64 (.ofNat 9))))
def iS:T Ad:=no .nil (no (no .nil (no .nil (no (lf iL) .nil))) .nil)
def GY:T AV:=nd (.str 0 0) (lf (.int .i64 (.ofNat 9))) .nil
def jD:Ad:=.cells 4 (nd y9 (nd (.int .i64 (.ofNat 159)) (lf (.int .i64 (.ofNat 7))) .nil) (lf (.int .i64 (.ofNat 9))))
def cO:T Ad:=no .nil (no (lf jD) .nil)
def iO:T Ad:=no .nil (no (lf (.cells 4 (nd y9 (nd (.int .i64 (.ofNat 160)) (lf (.int .i64 (.ofNat 8))) .nil) (lf (.int .i64 (.ofNat 9)))))) .nil)
def dh:T Ad:=no .nil (no (no .nil iO) .nil)
def gC:T Ad:=no .nil (no .nil (no (lf (.cells 4 (nd y9 (nd (.int .i64 (.ofNat 161)) (lf (.int .i64 (.ofNat 9))) .nil) (lf (.int .i64 (.ofNat 9)))))) .nil))
def j7:T Ad:=no .nil (no gC .nil)
def gP:T Ad:=no .nil (no .nil (no (lf (.cells 4 (nd y9 (nd (.int .i64 (.ofNat 166)) (lf (.int .i64 (.ofNat 14))) .nil) (lf (.int .i64 (.ofNat 9)))))) .nil))
def bA:T Ad:=no .nil (no gP .nil)
def kb:T Ad:=no (no .nil (no .nil (no (lf (.cells 4 (nd y9 (nd (.int .i64 (.ofNat 167)) (lf (.int .i64 (.ofNat 15))) .nil) (lf (.int .i64 (.ofNat 9)))))) .nil))) .nil
def dz:T Ad:=no .nil kb
def jn:T Ad:=no .nil (no (lf (.cells 4 (nd y9 (nd (.int .i64 (.ofNat 168)) (lf (.int .i64 (.ofNat 16))) .nil) (lf (.int .i64 (.ofNat 9)))))) .nil)
def fj:T Ad:=no (no .nil jn) .nil
def g8:T Ad:=no (lf (.cells 4 (nd y9 (nd (.int .i64 (.ofNat 172)) (lf (.int .i64 (.ofNat 20))) .nil) (lf (.int .i64 (.ofNat 9)))))) .nil
def cZ:T Ad:=no .nil g8
def iQ:T Ad:=no (lf (.cells 4 (nd y9 (nd (.int .i64 (.ofNat 173)) (lf (.int .i64 (.ofNat 21))) .nil) (lf (.int .i64 (.ofNat 9)))))) .nil
def cT:T Ad:=no (no .nil (no .nil iQ)) .nil
def gY:T Ad:=no (no .nil (no .nil (no (lf (.cells 4 (nd y9 (nd (.int .i64 (.ofNat 174)) (lf (.int .i64 (.ofNat 22))) .nil) (lf (.int .i64 (.ofNat 9)))))) .nil))) .nil
def cD:T Ad:=no .nil gY
def jh:T Ad:=no (no .nil (no .nil (no (lf (.cells 4 (nd y9 (nd (.int .i64 (.ofNat 175)) (lf (.int .i64 (.ofNat 1))) .nil) (lf (.int .i64 (.ofNat 10)))))) .nil))) .nil
def eK:T Ad:=no .nil jh
def jF:T AV:=nd (.str 0 0) (lf (.int .i64 (.ofNat 10))) .nil
def jY:T Ad:=no (no .nil (no .nil (no (lf (.cells 4 (nd y9 (nd (.int .i64 (.ofNat 176)) (lf (.int .i64 (.ofNat 2))) .nil) (lf (.int .i64 (.ofNat 10)))))) .nil))) .nil
def ce:T Ad:=no .nil jY
def dI:T Ad:=no (no .nil (no .nil (no (lf (.cells 4 (nd y9 (nd (.int .i64 (.ofNat 177)) (lf (.int .i64 (.ofNat 1))) .nil) (lf (.int .i64 (.ofNat 11)))))) .nil))) .nil
def dP:T Ad:=no .nil dI
def Ry:T AV:=nd (.str 0 0) (lf (.int .i64 (.ofNat 11))) .nil
def ip:T Ad:=no (no .nil (no .nil (no (lf (.cells 4 (nd y9 (nd (.int .i64 (.ofNat 184)) (lf (.int .i64 (.ofNat 8))) .nil) (lf (.int .i64 (.ofNat 11)))))) .nil))) .nil
def ew:T Ad:=no .nil ip
def iE:T Ad:=no .nil (no .nil (no (lf (.cells 4 (nd y9 (nd (.int .i64 (.ofNat 185)) (lf (.int .i64 (.ofNat 9))) .nil) (lf (.int .i64 (.ofNat 11)))))) .nil))
def cW:T Ad:=no .nil (no iE .nil)
def dX:T Ad:=no .nil (no .nil (no (lf (.cells 4 (nd y9 (nd (.int .i64 (.ofNat 188)) (lf (.int .i64 (.ofNat 12))) .nil) (lf (.int .i64 (.ofNat 11)))))) .nil))
def bi:T Ad:=no .nil (no dX .nil)
def gv:T Ad:=no (no .nil (no .nil (no (lf (.cells 4 (nd y9 (nd (.int .i64 (.ofNat 189)) (lf (.int .i64 (.ofNat 13))) .nil) (lf (.int .i64 (.ofNat 11)))))) .nil))) .nil
def gi:T Ad:=no .nil gv
def UX:T AV:=nd (.int .i64 (.ofNat 0)) (lf (.int .i64 (.ofNat 13))) .nil
def eP:T Ad:=no (no .nil (no .nil (no (lf (.cells 4 (nd y9 (nd (.int .i64 (.ofNat 190)) (lf (.int .i64 (.ofNat 14))) .nil) (lf (.int .i64 (.ofNat 11)))))) .nil))) .nil
def i8:T Ad:=no .nil eP
def j6:T Ad:=no (no .nil (no .nil (no (lf (.cells 4 (nd y9 (nd (.int .i64 (.ofNat 193)) (lf (.int .i64 (.ofNat 3))) .nil) (lf (.int .i64 (.ofNat 12)))))) .nil))) .nil
def dU:T Ad:=no .nil j6
def F4:T AV:=nd (.str 0 0) (lf (.int .i64 (.ofNat 12))) .nil
def Zr:T Ad:=no (no .nil (no .nil (no (lf (.cells 4 (nd y9 (nd (.int .i64 (.ofNat 199)) (lf (.int .i64 (.ofNat 9))) .nil) (lf (.int .i64 (.ofNat 12)))))) .nil))) .nil
def fu:T Ad:=no (no .nil (no .nil (no (lf (.cells 4 (nd y9 (nd (.int .i64 (.ofNat 200)) (lf (.int .i64 (.ofNat 10))) .nil) (lf (.int .i64 (.ofNat 12)))))) .nil))) .nil
def j0:T Ad:=no .nil fu
def cJ:T Ad:=no (no .nil (no .nil (no (lf (.cells 4 (nd y9 (nd (.int .i64 (.ofNat 201)) (lf (.int .i64 (.ofNat 11))) .nil) (lf (.int .i64 (.ofNat 12)))))) .nil))) .nil
def fP:T Ad:=no .nil cJ
def dS:T Ad:=no (no .nil (no .nil (no (lf (.cells 4 (nd y9 (nd (.int .i64 (.ofNat 205)) (lf (.int .i64 (.ofNat 15))) .nil) (lf (.int .i64 (.ofNat 12)))))) .nil))) .nil
def cM:T Ad:=no .nil dS
def iZ:T Ad:=no (lf (.cells 4 (nd y9 (nd (.int .i64 (.ofNat 206)) (lf (.int .i64 (.ofNat 16))) .nil) (lf (.int .i64 (.ofNat 12)))))) .nil
def iz:T Ad:=no .nil (no (no .nil (no .nil iZ)) .nil)
def gU:T Ad:=no (lf (.cells 4 (nd y9 (nd (.int .i64 (.ofNat 208)) (lf (.int .i64 (.ofNat 18))) .nil) (lf (.int .i64 (.ofNat 12)))))) .nil
def dM:T Ad:=no .nil (no (no .nil (no .nil gU)) .nil)
def fI:T Ad:=no (no .nil (no .nil (no (lf (.cells 4 (nd y9 (nd (.int .i64 (.ofNat 209)) (lf (.int .i64 (.ofNat 19))) .nil) (lf (.int .i64 (.ofNat 12)))))) .nil))) .nil
def eC:T Ad:=no .nil fI
def Zi:T Ad:=no (no .nil (no .nil (no (lf (.cells 4 (nd y9 (nd (.int .i64 (.ofNat 210)) (lf (.int .i64 (.ofNat 20))) .nil) (lf (.int .i64 (.ofNat 12)))))) .nil))) .nil
def iK:T Ad:=no .nil (no .nil (no (lf (.cells 4 (nd y9 (nd (.int .i64 (.ofNat 212)) (lf (.int .i64 (.ofNat 22))) .nil) (lf (.int .i64 (.ofNat 12)))))) .nil))
def fW:T Ad:=no iK .nil
def ci:Ad:=.cells 4 (nd y9 (nd (.int .i64 (.ofNat 217)) (lf (.int .i64 (.ofNat 27))) .nil) (lf (.int .i64 (.ofNat 12))))
def i6:T Ad:=no .nil (no .nil (no (lf ci) .nil))
def bw:Ad:=.cells 4 (nd y9 (nd (.int .i64 (.ofNat 218)) (lf (.int .i64 (.ofNat 28))) .nil) (lf (.int .i64 (.ofNat 12))))
def hQ:T Ad:=no .nil (no (no .nil (no .nil (no (lf bw) .nil))) .nil)
def eJ:T Ad:=no .nil (no .nil (no (lf (.cells 4 (nd y9 (nd (.int .i64 (.ofNat 219)) (lf (.int .i64 (.ofNat 1))) .nil) (lf (.int .i64 (.ofNat 13)))))) .nil))
def cy:T Ad:=no .nil (no eJ .nil)
def eG:T AV:=nd (.str 0 0) (lf (.int .i64 (.ofNat 13))) .nil
def ey:T Ad:=no .nil (no .nil (no (lf (.cells 4 (nd y9 (nd (.int .i64 (.ofNat 220)) (lf (.int .i64 (.ofNat 2))) .nil) (lf (.int .i64 (.ofNat 13)))))) .nil))
def dk:T Ad:=no .nil (no ey .nil)
def ek:T Ad:=no .nil (no (lf (.cells 4 (nd y9 (nd (.int .i64 (.ofNat 221)) (lf (.int .i64 (.ofNat 1))) .nil) (lf (.int .i64 (.ofNat 14)))))) .nil)
def ky:T Ad:=no .nil (no (no .nil ek) .nil)
def RZ:T AV:=nd (.str 0 0) (lf (.int .i64 (.ofNat 14))) .nil
def fe:T Ad:=no .nil (no (lf (.cells 4 (nd y9 (nd (.int .i64 (.ofNat 228)) (lf (.int .i64 (.ofNat 8))) .nil) (lf (.int .i64 (.ofNat 14)))))) .nil)
def aU:T Ad:=no .nil (no (no .nil fe) .nil)
def bg:T Ad:=no (no .nil (no .nil (no (lf (.cells 4 (nd y9 (nd (.int .i64 (.ofNat 229)) (lf (.int .i64 (.ofNat 9))) .nil) (lf (.int .i64 (.ofNat 14)))))) .nil))) .nil
def bK:T Ad:=no .nil bg
def gL:T Ad:=no (no .nil (no .nil (no (lf (.cells 4 (nd y9 (nd (.int .i64 (.ofNat 234)) (lf (.int .i64 (.ofNat 14))) .nil) (lf (.int .i64 (.ofNat 14)))))) .nil))) .nil
def eS:T Ad:=no .nil gL
def cE:T Ad:=no .nil (no .nil (no (lf (.cells 4 (nd y9 (nd (.int .i64 (.ofNat 235)) (lf (.int .i64 (.ofNat 15))) .nil) (lf (.int .i64 (.ofNat 14)))))) .nil))
def eo:T Ad:=no .nil (no cE .nil)
def jj:T Ad:=no .nil (no .nil (no (lf (.cells 4 (nd y9 (nd (.int .i64 (.ofNat 236)) (lf (.int .i64 (.ofNat 16))) .nil) (lf (.int .i64 (.ofNat 14)))))) .nil))
def fL:T Ad:=no .nil (no jj .nil)
def ik:T Ad:=no .nil (no (lf (.cells 4 (nd y9 (nd (.int .i64 (.ofNat 239)) (lf (.int .i64 (.ofNat 3))) .nil) (lf (.int .i64 (.ofNat 15)))))) .nil)
def br:T Ad:=no .nil (no (no .nil ik) .nil)
def F9:T AV:=nd (.str 0 0) (lf (.int .i64 (.ofNat 15))) .nil
def kh:Ad:=.cells 4 (nd y9 (nd (.int .i64 (.ofNat 243)) (lf (.int .i64 (.ofNat 7))) .nil) (lf (.int .i64 (.ofNat 15))))
def gM:T Ad:=no .nil (no (lf kh) .nil)
def bH:Ad:=.cells 4 (nd y9 (nd (.int .i64 (.ofNat 244)) (lf (.int .i64 (.ofNat 8))) .nil) (lf (.int .i64 (.ofNat 15))))
def bY:T Ad:=no .nil (no (no .nil (no .nil (no (lf bH) .nil))) .nil)
def dZ:T Ad:=no .nil (no .nil (no (lf (.cells 4 (nd y9 (nd (.int .i64 (.ofNat 245)) (lf (.int .i64 (.ofNat 9))) .nil) (lf (.int .i64 (.ofNat 15)))))) .nil))
def gr:T Ad:=no .nil (no dZ .nil)
def aY:T Ad:=no .nil (no .nil (no (lf (.cells 4 (nd y9 (nd (.int .i64 (.ofNat 249)) (lf (.int .i64 (.ofNat 13))) .nil) (lf (.int .i64 (.ofNat 15)))))) .nil))
def jJ:T Ad:=no .nil (no aY .nil)
def eV:T Ad:=no (no .nil (no .nil (no (lf (.cells 4 (nd y9 (nd (.int .i64 (.ofNat 250)) (lf (.int .i64 (.ofNat 14))) .nil) (lf (.int .i64 (.ofNat 15)))))) .nil))) .nil
def hY:T Ad:=no .nil eV
def cX:T Ad:=no (no .nil (no .nil (no (lf (.cells 4 (nd y9 (nd (.int .i64 (.ofNat 252)) (lf (.int .i64 (.ofNat 16))) .nil) (lf (.int .i64 (.ofNat 15)))))) .nil))) .nil
def jb:T Ad:=no .nil cX
def dQ:T Ad:=no .nil (no .nil (no (lf (.cells 4 (nd y9 (nd (.int .i64 (.ofNat 253)) (lf (.int .i64 (.ofNat 17))) .nil) (lf (.int .i64 (.ofNat 15)))))) .nil))
def hZ:T Ad:=no .nil (no dQ .nil)
def fY:T Ad:=no (lf (.cells 4 (nd y9 (nd (.int .i64 (.ofNat 254)) (lf (.int .i64 (.ofNat 18))) .nil) (lf (.int .i64 (.ofNat 15)))))) .nil
def de:T Ad:=no .nil (no .nil fY)
def i5:T Ad:=no (lf (.cells 4 (nd y9 (nd (.int .i64 (.ofNat 256)) (lf (.int .i64 (.ofNat 20))) .nil) (lf (.int .i64 (.ofNat 15)))))) .nil
def cH:T Ad:=no (no .nil (no .nil i5)) .nil
def fk:T AV:=nd (.int .i64 (.ofNat 8)) (lf (.int .i64 (.ofNat 20))) .nil
def aa:T Ad:=no (no .nil (no .nil (no (lf (.cells 4 (nd y9 (nd (.int .i64 (.ofNat 257)) (lf (.int .i64 (.ofNat 21))) .nil) (lf (.int .i64 (.ofNat 15)))))) .nil))) .nil
def kw:T Ad:=no (no .nil (no .nil (no (lf (.cells 4 (nd y9 (nd (.int .i64 (.ofNat 258)) (lf (.int .i64 (.ofNat 22))) .nil) (lf (.int .i64 (.ofNat 15)))))) .nil))) .nil
def iC:T Ad:=no .nil kw
def cB:T Ad:=no (no .nil (no .nil (no (lf (.cells 4 (nd y9 (nd (.int .i64 (.ofNat 261)) (lf (.int .i64 (.ofNat 3))) .nil) (lf (.int .i64 (.ofNat 16)))))) .nil))) .nil
def jd:T Ad:=no .nil cB
def HA:T AV:=nd (.str 0 0) (lf (.int .i64 (.ofNat 16))) .nil
def Zs:T Ad:=no (no .nil (no .nil (no (lf (.cells 4 (nd y9 (nd (.int .i64 (.ofNat 267)) (lf (.int .i64 (.ofNat 9))) .nil) (lf (.int .i64 (.ofNat 16)))))) .nil))) .nil
def fa:T Ad:=no (no .nil (no .nil (no (lf (.cells 4 (nd y9 (nd (.int .i64 (.ofNat 268)) (lf (.int .i64 (.ofNat 10))) .nil) (lf (.int .i64 (.ofNat 16)))))) .nil))) .nil
def fi:T Ad:=no .nil fa
def iy:T Ad:=no (no .nil (no .nil (no (lf (.cells 4 (nd y9 (nd (.int .i64 (.ofNat 269)) (lf (.int .i64 (.ofNat 11))) .nil) (lf (.int .i64 (.ofNat 16)))))) .nil))) .nil
def kn:T Ad:=no .nil iy
def jM:T Ad:=no (no .nil (no .nil (no (lf (.cells 4 (nd y9 (nd (.int .i64 (.ofNat 274)) (lf (.int .i64 (.ofNat 16))) .nil) (lf (.int .i64 (.ofNat 16)))))) .nil))) .nil
def iR:T Ad:=no .nil jM
def cw:T Ad:=no (lf (.cells 4 (nd y9 (nd (.int .i64 (.ofNat 275)) (lf (.int .i64 (.ofNat 17))) .nil) (lf (.int .i64 (.ofNat 16)))))) .nil
def iu:T Ad:=no .nil (no (no .nil (no .nil cw)) .nil)
def bN:T Ad:=no (lf (.cells 4 (nd y9 (nd (.int .i64 (.ofNat 276)) (lf (.int .i64 (.ofNat 18))) .nil) (lf (.int .i64 (.ofNat 16)))))) .nil
def ii:T Ad:=no .nil (no (no .nil (no .nil bN)) .nil)
def fM:T Ad:=no (no .nil (no .nil (no (lf (.cells 4 (nd y9 (nd (.int .i64 (.ofNat 277)) (lf (.int .i64 (.ofNat 19))) .nil) (lf (.int .i64 (.ofNat 16)))))) .nil))) .nil
def cP:T Ad:=no .nil fM
def kf:T Ad:=no (no .nil (no .nil (no (lf (.cells 4 (nd y9 (nd (.int .i64 (.ofNat 280)) (lf (.int .i64 (.ofNat 22))) .nil) (lf (.int .i64 (.ofNat 16)))))) .nil))) .nil
def dc:T Ad:=no .nil kf
def bF:T Ad:=no .nil (no (lf (.cells 4 (nd y9 (nd (.int .i64 (.ofNat 281)) (lf (.int .i64 (.ofNat 23))) .nil) (lf (.int .i64 (.ofNat 16)))))) .nil)
def gy:T Ad:=no .nil (no (no .nil bF) .nil)
def cC:T Ad:=no .nil (no (lf (.cells 4 (nd y9 (nd (.int .i64 (.ofNat 284)) (lf (.int .i64 (.ofNat 26))) .nil) (lf (.int .i64 (.ofNat 16)))))) .nil)
def jI:T Ad:=no .nil cC
def cY:T AV:=nd (.int .i64 (.ofNat 0)) (lf (.int .i64 (.ofNat 26))) .nil
def gX:T Ad:=no .nil (no .nil (no (lf (.cells 4 (nd y9 (nd (.int .i64 (.ofNat 285)) (lf (.int .i64 (.ofNat 27))) .nil) (lf (.int .i64 (.ofNat 16)))))) .nil))
def ju:T Ad:=no .nil (no gX .nil)
def fv:T Ad:=lf (.cells 4 (nd y9 (nd (.int .i64 (.ofNat 286)) (lf (.int .i64 (.ofNat 1))) .nil) (lf (.int .i64 (.ofNat 17)))))
def j5:T Ad:=no .nil (no (no .nil (no .nil (no fv .nil))) .nil)
def ba:T AV:=nd (.str 0 0) (lf (.int .i64 (.ofNat 17))) .nil
def jH:T Ad:=lf (.cells 4 (nd y9 (nd (.int .i64 (.ofNat 287)) (lf (.int .i64 (.ofNat 2))) .nil) (lf (.int .i64 (.ofNat 17)))))
def je:T Ad:=no .nil (no (no .nil (no .nil (no jH .nil))) .nil)
def gF:T Ad:=no .nil (no .nil (no (lf (.cells 4 (nd y9 (nd (.int .i64 (.ofNat 288)) (lf (.int .i64 (.ofNat 1))) .nil) (lf (.int .i64 (.ofNat 18)))))) .nil))
def eA:T Ad:=no .nil (no gF .nil)
def Q7:T AV:=nd (.str 0 0) (lf (.int .i64 (.ofNat 18))) .nil
def jm:T Ad:=no .nil (no .nil (no (lf (.cells 4 (nd y9 (nd (.int .i64 (.ofNat 295)) (lf (.int .i64 (.ofNat 8))) .nil) (lf (.int .i64 (.ofNat 18)))))) .nil))
def eW:T Ad:=no .nil (no jm .nil)
def a9:T Ad:=no (no .nil (no .nil (no (lf (.cells 4 (nd y9 (nd (.int .i64 (.ofNat 296)) (lf (.int .i64 (.ofNat 9))) .nil) (lf (.int .i64 (.ofNat 18)))))) .nil))) .nil
def gN:T Ad:=no .nil a9
def bq:T Ad:=no (no .nil (no .nil (no (lf (.cells 4 (nd y9 (nd (.int .i64 (.ofNat 302)) (lf (.int .i64 (.ofNat 15))) .nil) (lf (.int .i64 (.ofNat 18)))))) .nil))) .nil
def bE:T Ad:=no .nil bq
def dm:Ad:=.cells 4 (nd y9 (nd (.int .i64 (.ofNat 303)) (lf (.int .i64 (.ofNat 16))) .nil) (lf (.int .i64 (.ofNat 18))))
def fB:T Ad:=no .nil (no (no .nil (no .nil (no (lf dm) .nil))) .nil)
def ga:Ad:=.cells 4 (nd y9 (nd (.int .i64 (.ofNat 304)) (lf (.int .i64 (.ofNat 17))) .nil) (lf (.int .i64 (.ofNat 18))))
def fG:T Ad:=no .nil (no (no .nil (no .nil (no (lf ga) .nil))) .nil)
def iP:T Ad:=no .nil (no .nil (no (lf (.cells 4 (nd y9 (nd (.int .i64 (.ofNat 307)) (lf (.int .i64 (.ofNat 3))) .nil) (lf (.int .i64 (.ofNat 19)))))) .nil))
def bp:T Ad:=no .nil (no iP .nil)
def F7:T AV:=nd (.str 0 0) (lf (.int .i64 (.ofNat 19))) .nil
def Xd:T Ad:=no .nil (no .nil (no (lf (.cells 4 (nd y9 (nd (.int .i64 (.ofNat 309)) (lf (.int .i64 (.ofNat 5))) .nil) (lf (.int .i64 (.ofNat 19)))))) .nil))
def be:T AV:=nd (.int .i64 (.ofNat 0)) (lf (.int .i64 (.ofNat 5))) .nil
def dK:T Ad:=no .nil (no .nil (no (lf (.cells 4 (nd y9 (nd (.int .i64 (.ofNat 310)) (lf (.int .i64 (.ofNat 6))) .nil) (lf (.int .i64 (.ofNat 19)))))) .nil))
def dx:T Ad:=no .nil (no dK .nil)
def jx:T Ad:=lf (.cells 4 (nd y9 (nd (.int .i64 (.ofNat 311)) (lf (.int .i64 (.ofNat 7))) .nil) (lf (.int .i64 (.ofNat 19)))))
def g9:T Ad:=no .nil (no (no .nil (no .nil (no jx .nil))) .nil)
def fR:T Ad:=lf (.cells 4 (nd y9 (nd (.int .i64 (.ofNat 315)) (lf (.int .i64 (.ofNat 11))) .nil) (lf (.int .i64 (.ofNat 19)))))
def jN:T Ad:=no .nil (no (no .nil (no .nil (no fR .nil))) .nil)
def bu:T Ad:=no (no .nil (no .nil (no (lf (.cells 4 (nd y9 (nd (.int .i64 (.ofNat 316)) (lf (.int .i64 (.ofNat 12))) .nil) (lf (.int .i64 (.ofNat 19)))))) .nil))) .nil
def bT:T Ad:=no .nil bu
def fX:T AV:=nd (.int .i64 (.ofNat 0)) (lf (.int .i64 (.ofNat 12))) .nil
def jE:T Ad:=no (no .nil (no .nil (no (lf (.cells 4 (nd y9 (nd (.int .i64 (.ofNat 318)) (lf (.int .i64 (.ofNat 14))) .nil) (lf (.int .i64 (.ofNat 19)))))) .nil))) .nil
def jU:T Ad:=no .nil jE
def iw:T Ad:=no .nil (no (lf (.cells 4 (nd y9 (nd (.int .i64 (.ofNat 319)) (lf (.int .i64 (.ofNat 15))) .nil) (lf (.int .i64 (.ofNat 19)))))) .nil)
def jq:T Ad:=no .nil (no (no .nil iw) .nil)
def km:T Ad:=no .nil (no (lf (.cells 4 (nd y9 (nd (.int .i64 (.ofNat 320)) (lf (.int .i64 (.ofNat 16))) .nil) (lf (.int .i64 (.ofNat 19)))))) .nil)
def cN:T Ad:=no .nil km
def jf:T Ad:=no .nil (no .nil (no (lf (.cells 4 (nd y9 (nd (.int .i64 (.ofNat 322)) (lf (.int .i64 (.ofNat 18))) .nil) (lf (.int .i64 (.ofNat 19)))))) .nil))
def iA:T Ad:=no jf .nil
def Ww:T Ad:=no (no .nil (no .nil (no (lf (.cells 4 (nd y9 (nd (.int .i64 (.ofNat 323)) (lf (.int .i64 (.ofNat 19))) .nil) (lf (.int .i64 (.ofNat 19)))))) .nil))) .nil
def jV:T Ad:=no (no .nil (no .nil (no (lf (.cells 4 (nd y9 (nd (.int .i64 (.ofNat 324)) (lf (.int .i64 (.ofNat 20))) .nil) (lf (.int .i64 (.ofNat 19)))))) .nil))) .nil
def fV:T Ad:=no .nil jV
def fw:T Ad:=no (no .nil (no .nil (no (lf (.cells 4 (nd y9 (nd (.int .i64 (.ofNat 327)) (lf (.int .i64 (.ofNat 3))) .nil) (lf (.int .i64 (.ofNat 20)))))) .nil))) .nil
def eF:T Ad:=no .nil fw
def AO:T AV:=nd (.str 0 0) (lf (.int .i64 (.ofNat 20))) .nil
def V7:T Ad:=no (no .nil (no .nil (no (lf (.cells 4 (nd y9 (nd (.int .i64 (.ofNat 331)) (lf (.int .i64 (.ofNat 7))) .nil) (lf (.int .i64 (.ofNat 20)))))) .nil))) .nil
def dA:T Ad:=no (no .nil (no .nil (no (lf (.cells 4 (nd y9 (nd (.int .i64 (.ofNat 332)) (lf (.int .i64 (.ofNat 8))) .nil) (lf (.int .i64 (.ofNat 20)))))) .nil))) .nil
def bL:T Ad:=no .nil dA
def ir:T Ad:=no (no .nil (no .nil (no (lf (.cells 4 (nd y9 (nd (.int .i64 (.ofNat 333)) (lf (.int .i64 (.ofNat 9))) .nil) (lf (.int .i64 (.ofNat 20)))))) .nil))) .nil
def ko:T Ad:=no .nil ir
def dL:T Ad:=no (no .nil (no .nil (no (lf (.cells 4 (nd y9 (nd (.int .i64 (.ofNat 339)) (lf (.int .i64 (.ofNat 15))) .nil) (lf (.int .i64 (.ofNat 20)))))) .nil))) .nil
def gk:T Ad:=no .nil dL
def i9:T Ad:=no .nil (no .nil (no (lf (.cells 4 (nd y9 (nd (.int .i64 (.ofNat 340)) (lf (.int .i64 (.ofNat 16))) .nil) (lf (.int .i64 (.ofNat 20)))))) .nil))
def gK:T Ad:=no .nil (no i9 .nil)
def dY:T Ad:=no .nil (no .nil (no (lf (.cells 4 (nd y9 (nd (.int .i64 (.ofNat 342)) (lf (.int .i64 (.ofNat 18))) .nil) (lf (.int .i64 (.ofNat 20)))))) .nil))
def ja:T Ad:=no .nil (no dY .nil)
def iW:T Ad:=no (no .nil (no .nil (no (lf (.cells 4 (nd y9 (nd (.int .i64 (.ofNat 343)) (lf (.int .i64 (.ofNat 19))) .nil) (lf (.int .i64 (.ofNat 20)))))) .nil))) .nil
def g7:T Ad:=no .nil iW
def gB:T Ad:=no (no .nil (no .nil (no (lf (.cells 4 (nd y9 (nd (.int .i64 (.ofNat 344)) (lf (.int .i64 (.ofNat 20))) .nil) (lf (.int .i64 (.ofNat 20)))))) .nil))) .nil
def cF:T Ad:=no .nil gB
def ku:T Ad:=no (no .nil (no .nil (no (lf (.cells 4 (nd y9 (nd (.int .i64 (.ofNat 345)) (lf (.int .i64 (.ofNat 21))) .nil) (lf (.int .i64 (.ofNat 20)))))) .nil))) .nil
def gd:T Ad:=no .nil ku
def Wb:T Ad:=no (no .nil (no .nil (no (lf (.cells 4 (nd y9 (nd (.int .i64 (.ofNat 346)) (lf (.int .i64 (.ofNat 22))) .nil) (lf (.int .i64 (.ofNat 20)))))) .nil))) .nil
def b7:T Ad:=no (lf (.cells 4 (nd y9 (nd (.int .i64 (.ofNat 348)) (lf (.int .i64 (.ofNat 24))) .nil) (lf (.int .i64 (.ofNat 20)))))) .nil
def gz:T Ad:=no (no .nil (no .nil b7)) .nil
def j8:T Ad:=no (lf (.cells 4 (nd y9 (nd (.int .i64 (.ofNat 349)) (lf (.int .i64 (.ofNat 25))) .nil) (lf (.int .i64 (.ofNat 20)))))) .nil
def jP:T Ad:=no .nil (no .nil j8)
def cz:T AV:=nd (.int .i64 (.ofNat 0)) (lf (.int .i64 (.ofNat 25))) .nil
def fO:T Ad:=no .nil (no .nil (no (lf (.cells 4 (nd y9 (nd (.int .i64 (.ofNat 350)) (lf (.int .i64 (.ofNat 26))) .nil) (lf (.int .i64 (.ofNat 20)))))) .nil))
def ej:T Ad:=no .nil (no fO .nil)
def eh:T Ad:=no .nil (no (lf (.cells 4 (nd y9 (nd (.int .i64 (.ofNat 351)) (lf (.int .i64 (.ofNat 27))) .nil) (lf (.int .i64 (.ofNat 20)))))) .nil)
def eX:T Ad:=no .nil (no (no .nil eh) .nil)
def dp:T Ad:=no (lf (.cells 4 (nd y9 (nd (.int .i64 (.ofNat 358)) (lf (.int .i64 (.ofNat 34))) .nil) (lf (.int .i64 (.ofNat 20)))))) .nil
def ca:T Ad:=no .nil dp
def jR:T AV:=nd (.int .i64 (.ofNat 0)) (lf (.int .i64 (.ofNat 34))) .nil
def jc:T Ad:=no (lf (.cells 4 (nd y9 (nd (.int .i64 (.ofNat 359)) (lf (.int .i64 (.ofNat 35))) .nil) (lf (.int .i64 (.ofNat 20)))))) .nil
def f4:T Ad:=no .nil (no (no .nil (no .nil jc)) .nil)
def fQ:T Ad:=no .nil (no .nil (no (lf (.cells 4 (nd y9 (nd (.int .i64 (.ofNat 360)) (lf (.int .i64 (.ofNat 36))) .nil) (lf (.int .i64 (.ofNat 20)))))) .nil))
def kk:T Ad:=no .nil (no fQ .nil)
def en:T Ad:=no .nil (no (lf (.cells 4 (nd y9 (nd (.int .i64 (.ofNat 361)) (lf (.int .i64 (.ofNat 37))) .nil) (lf (.int .i64 (.ofNat 20)))))) .nil)
def kg:T Ad:=no .nil en
def bM:T AV:=nd (.int .i64 (.ofNat 0)) (lf (.int .i64 (.ofNat 37))) .nil
def jQ:T Ad:=no .nil (no (lf (.cells 4 (nd y9 (nd (.int .i64 (.ofNat 363)) (lf (.int .i64 (.ofNat 39))) .nil) (lf (.int .i64 (.ofNat 20)))))) .nil)
def aX:T Ad:=no (no .nil jQ) .nil
def W2:T Ad:=no (no .nil (no .nil (no (lf (.cells 4 (nd y9 (nd (.int .i64 (.ofNat 364)) (lf (.int .i64 (.ofNat 40))) .nil) (lf (.int .i64 (.ofNat 20)))))) .nil))) .nil
def jr:T AV:=nd (.int .i64 (.ofNat 0)) (lf (.int .i64 (.ofNat 40))) .nil
def dO:T Ad:=no (no .nil (no .nil (no (lf (.cells 4 (nd y9 (nd (.int .i64 (.ofNat 365)) (lf (.int .i64 (.ofNat 41))) .nil) (lf (.int .i64 (.ofNat 20)))))) .nil))) .nil
def bz:T Ad:=no .nil dO
def jO:T Ad:=no (no .nil (no .nil (no (lf (.cells 4 (nd y9 (nd (.int .i64 (.ofNat 366)) (lf (.int .i64 (.ofNat 42))) .nil) (lf (.int .i64 (.ofNat 20)))))) .nil))) .nil
def bO:T Ad:=no .nil jO
def cK:T AV:=nd (.int .i64 (.ofNat 0)) (lf (.int .i64 (.ofNat 42))) .nil
def aQ:T Ad:=no (no .nil (no .nil (no (lf (.cells 4 (nd y9 (nd (.int .i64 (.ofNat 371)) (lf (.int .i64 (.ofNat 47))) .nil) (lf (.int .i64 (.ofNat 20)))))) .nil))) .nil
def dB:T AV:=nd (.int .i64 (.ofNat 0)) (lf (.int .i64 (.ofNat 47))) .nil
def eR:T Ad:=no (no .nil (no .nil (no (lf (.cells 4 (nd y9 (nd (.int .i64 (.ofNat 372)) (lf (.int .i64 (.ofNat 48))) .nil) (lf (.int .i64 (.ofNat 20)))))) .nil))) .nil
def fc:T Ad:=no .nil eR
def ka:T Ad:=no (no .nil (no .nil (no (lf (.cells 4 (nd y9 (nd (.int .i64 (.ofNat 373)) (lf (.int .i64 (.ofNat 49))) .nil) (lf (.int .i64 (.ofNat 20)))))) .nil))) .nil
def bj:T Ad:=no .nil ka
def Yi:T Ad:=no (no .nil (no .nil (no (lf (.cells 4 (nd y9 (nd (.int .i64 (.ofNat 374)) (lf (.int .i64 (.ofNat 50))) .nil) (lf (.int .i64 (.ofNat 20)))))) .nil))) .nil
def fK:T AV:=nd (.int .i64 (.ofNat 0)) (lf (.int .i64 (.ofNat 50))) .nil
def bG:T Ad:=no .nil (no .nil (no (lf (.cells 4 (nd y9 (nd (.int .i64 (.ofNat 376)) (lf (.int .i64 (.ofNat 52))) .nil) (lf (.int .i64 (.ofNat 20)))))) .nil))
def jC:T Ad:=no bG .nil
def ia:Ad:=.cells 4 (nd y9 (nd (.int .i64 (.ofNat 377)) (lf (.int .i64 (.ofNat 53))) .nil) (lf (.int .i64 (.ofNat 20))))
def cx:T Ad:=no .nil (no .nil (no (lf ia) .nil))
def bC:T AV:=nd (.int .i64 (.ofNat 0)) (lf (.int .i64 (.ofNat 53))) .nil
def fZ:Ad:=.cells 4 (nd y9 (nd (.int .i64 (.ofNat 378)) (lf (.int .i64 (.ofNat 54))) .nil) (lf (.int .i64 (.ofNat 20))))
def cj:T Ad:=no .nil (no (no .nil (no .nil (no (lf fZ) .nil))) .nil)
def ig:T Ad:=no .nil (no .nil (no (lf (.cells 4 (nd y9 (nd (.int .i64 (.ofNat 379)) (lf (.int .i64 (.ofNat 55))) .nil) (lf (.int .i64 (.ofNat 20)))))) .nil))
def eY:T Ad:=no .nil (no ig .nil)
def gt:T AV:=nd (.int .i64 (.ofNat 0)) (lf (.int .i64 (.ofNat 55))) .nil
def XT:T Ad:=no .nil (no .nil (no (lf (.cells 4 (nd y9 (nd (.int .i64 (.ofNat 382)) (lf (.int .i64 (.ofNat 58))) .nil) (lf (.int .i64 (.ofNat 20)))))) .nil))
def bb:T AV:=nd (.int .i64 (.ofNat 0)) (lf (.int .i64 (.ofNat 58))) .nil
def gD:T Ad:=no .nil (no .nil (no (lf (.cells 4 (nd y9 (nd (.int .i64 (.ofNat 383)) (lf (.int .i64 (.ofNat 59))) .nil) (lf (.int .i64 (.ofNat 20)))))) .nil))
def d7:T Ad:=no .nil (no gD .nil)
def hU:T Ad:=lf (.cells 4 (nd y9 (nd (.int .i64 (.ofNat 384)) (lf (.int .i64 (.ofNat 60))) .nil) (lf (.int .i64 (.ofNat 20)))))
def dW:T Ad:=no .nil (no (no .nil (no .nil (no hU .nil))) .nil)
def aZ:T Ad:=lf (.cells 4 (nd y9 (nd (.int .i64 (.ofNat 385)) (lf (.int .i64 (.ofNat 61))) .nil) (lf (.int .i64 (.ofNat 20)))))
def eU:T Ad:=no .nil (no .nil (no aZ .nil))
def fF:T AV:=nd (.int .i64 (.ofNat 0)) (lf (.int .i64 (.ofNat 61))) .nil
def ge:T Ad:=no .nil (no .nil (no (lf (.cells 4 (nd y9 (nd (.int .i64 (.ofNat 387)) (lf (.int .i64 (.ofNat 63))) .nil) (lf (.int .i64 (.ofNat 20)))))) .nil))
def gQ:T Ad:=no ge .nil
def ZZ:T Ad:=no (no .nil (no .nil (no (lf (.cells 4 (nd y9 (nd (.int .i64 (.ofNat 388)) (lf (.int .i64 (.ofNat 64))) .nil) (lf (.int .i64 (.ofNat 20)))))) .nil))) .nil
def ct:T AV:=nd (.int .i64 (.ofNat 0)) (lf (.int .i64 (.ofNat 64))) .nil
def db:T Ad:=no (no .nil (no .nil (no (lf (.cells 4 (nd y9 (nd (.int .i64 (.ofNat 389)) (lf (.int .i64 (.ofNat 65))) .nil) (lf (.int .i64 (.ofNat 20)))))) .nil))) .nil
def gS:T Ad:=no .nil db
def jy:T Ad:=no (no .nil (no .nil (no (lf (.cells 4 (nd y9 (nd (.int .i64 (.ofNat 390)) (lf (.int .i64 (.ofNat 66))) .nil) (lf (.int .i64 (.ofNat 20)))))) .nil))) .nil
def f7:T Ad:=no .nil jy
def jZ:T AV:=nd (.int .i64 (.ofNat 0)) (lf (.int .i64 (.ofNat 66))) .nil
def Xy:T Ad:=no (no .nil (no .nil (no (lf (.cells 4 (nd y9 (nd (.int .i64 (.ofNat 395)) (lf (.int .i64 (.ofNat 71))) .nil) (lf (.int .i64 (.ofNat 20)))))) .nil))) .nil
def dN:T AV:=nd (.int .i64 (.ofNat 0)) (lf (.int .i64 (.ofNat 71))) .nil
def ei:T Ad:=no (no .nil (no .nil (no (lf (.cells 4 (nd y9 (nd (.int .i64 (.ofNat 396)) (lf (.int .i64 (.ofNat 72))) .nil) (lf (.int .i64 (.ofNat 20)))))) .nil))) .nil
def gj:T Ad:=no .nil ei
def fH:T Ad:=no (no .nil (no .nil (no (lf (.cells 4 (nd y9 (nd (.int .i64 (.ofNat 397)) (lf (.int .i64 (.ofNat 73))) .nil) (lf (.int .i64 (.ofNat 20)))))) .nil))) .nil
def iJ:T Ad:=no .nil fH
def jA:T AV:=nd (.int .i64 (.ofNat 0)) (lf (.int .i64 (.ofNat 73))) .nil
def eu:T Ad:=no .nil (no .nil (no (lf (.cells 4 (nd y9 (nd (.int .i64 (.ofNat 398)) (lf (.int .i64 (.ofNat 74))) .nil) (lf (.int .i64 (.ofNat 20)))))) .nil))
def cI:T Ad:=no eu .nil
def gI:T AV:=nd (.int .i64 (.ofNat 0)) (lf (.int .i64 (.ofNat 74))) .nil
def d8:T Ad:=no .nil (no .nil (no (lf (.cells 4 (nd y9 (nd (.int .i64 (.ofNat 399)) (lf (.int .i64 (.ofNat 75))) .nil) (lf (.int .i64 (.ofNat 20)))))) .nil))
def ib:T Ad:=no .nil (no d8 .nil)
def eE:T Ad:=no .nil (no (lf (.cells 4 (nd y9 (nd (.int .i64 (.ofNat 400)) (lf (.int .i64 (.ofNat 1))) .nil) (lf (.int .i64 (.ofNat 21)))))) .nil)
def gx:T Ad:=no .nil (no (no .nil eE) .nil)
def bP:T AV:=nd (.str 0 0) (lf (.int .i64 (.ofNat 21))) .nil
def dj:T Ad:=no .nil (no (lf (.cells 4 (nd y9 (nd (.int .i64 (.ofNat 401)) (lf (.int .i64 (.ofNat 2))) .nil) (lf (.int .i64 (.ofNat 21)))))) .nil)
def hP:T Ad:=no .nil (no (no .nil dj) .nil)
def gV:T Ad:=no .nil (no .nil (no (lf (.cells 4 (nd y9 (nd (.int .i64 (.ofNat 402)) (lf (.int .i64 (.ofNat 1))) .nil) (lf (.int .i64 (.ofNat 22)))))) .nil))
def gq:T Ad:=no .nil (no gV .nil)
def RQ:T AV:=nd (.str 0 0) (lf (.int .i64 (.ofNat 22))) .nil
def dD:T Ad:=no .nil (no .nil (no (lf (.cells 4 (nd y9 (nd (.int .i64 (.ofNat 407)) (lf (.int .i64 (.ofNat 6))) .nil) (lf (.int .i64 (.ofNat 22)))))) .nil))
def ft:T Ad:=no .nil (no dD .nil)
def jk:T Ad:=no (no .nil (no .nil (no (lf (.cells 4 (nd y9 (nd (.int .i64 (.ofNat 408)) (lf (.int .i64 (.ofNat 7))) .nil) (lf (.int .i64 (.ofNat 22)))))) .nil))) .nil
def gh:T Ad:=no .nil jk
def Yk:T Ad:=no (no .nil (no .nil (no (lf (.cells 4 (nd y9 (nd (.int .i64 (.ofNat 414)) (lf (.int .i64 (.ofNat 13))) .nil) (lf (.int .i64 (.ofNat 22)))))) .nil))) .nil
def iH:T Ad:=no (no .nil (no .nil (no (lf (.cells 4 (nd y9 (nd (.int .i64 (.ofNat 415)) (lf (.int .i64 (.ofNat 14))) .nil) (lf (.int .i64 (.ofNat 22)))))) .nil))) .nil
def eT:T Ad:=no .nil iH
def gA:T Ad:=no .nil (no .nil (no (lf (.cells 4 (nd y9 (nd (.int .i64 (.ofNat 416)) (lf (.int .i64 (.ofNat 1))) .nil) (lf (.int .i64 (.ofNat 23)))))) .nil))
def dH:T Ad:=no .nil (no gA .nil)
def b9:T AV:=nd (.int .i64 (.ofNat 1)) (lf (.str 2 11822)) .nil
def iX:T AV:=nd (.int .i64 (.ofNat 3)) (lf (.int .i64 (.ofNat 2))) .nil
def jv:T AV:=nd (.str 2 13873) (lf (.int .i64 (.ofNat 0))) .nil
def fA:T AV:=nd (.int .i64 (.ofNat 2)) (lf (.str 1 59)) .nil
def dR:T AV:=nd (.int .i64 (.ofNat 0)) fA (lf (.int .i64 (.ofNat 20)))
def fq:T AV:=nd (.int .i64 (.ofNat 9)) y97 (lf (.int .i64 (.ofNat 4)))
def jW:T AV:=nd (.int .i64 (.ofNat 1)) (lf (.str 1 59)) .nil
def fT:T AV:=nd (.int .i64 (.ofNat 1)) (lf (.str 1 58)) .nil
def ji:T AV:=nd (.int .i64 (.ofNat 9)) (lf (.int .i64 (.ofNat 1))) .nil
def dr:T AV:=nd (.int .i64 (.ofNat 20)) (lf (.int .i64 (.ofNat 4))) .nil
def jS:T AV:=nd (.int .i64 (.ofNat 4)) (lf (.str 1 53)) .nil
def dF:T AV:=nd (.int .i64 (.ofNat 16)) (lf (.int .i64 (.ofNat 20))) .nil
def f8:T AV:=nd (.str 1 48) (lf (.int .i64 (.ofNat 0))) .nil
def UZ:T AV:=nd (.int .i64 (.ofNat 9)) (lf (.int .i64 (.ofNat 4))) .nil
def jX:T AV:=nd (.int .i64 (.ofNat 4)) (lf (.str 1 52)) .nil
def bZ:T AV:=nd (.int .i64 (.ofNat 0)) (nd (.int .i64 (.ofNat 4)) (lf (.str 1 125)) .nil) (lf (.int .i64 (.ofNat 20)))
def eN:T AV:=nd (.int .i64 (.ofNat 0)) (lf (.int .i64 (.ofNat 2))) (lf (.int .i64 (.ofNat 20)))
def dE:T AV:=nd (.str 4 1953393013) (lf (.int .i64 (.ofNat 0))) .nil
def iI:T Ad:=no .nil (no .nil (no (lf (.cells 625 (nd (.int .i64 (.ofNat 1)) (nd (.str 8 7813573208857080432) (nd (.int .i64 (.ofNat 1)) (nd (.int .i64 (.ofNat 0)) (nd (.int .i64 (.ofNat 1)) (nd (.str 4 1701603686) (nd (.int .i64 (.ofNat 3)) (nd (.int .i64 (.ofNat 0)) b9 (lf (.int .i64 (.ofNat 16)))) (nd (.str 3 3289397) iX (lf (.int .i64 (.ofNat 0))))) (nd (.int .i64 (.ofNat 4)) (nd (.int .i64 (.ofNat 27)) (nd (.int .i64 (.ofNat 65535)) (lf (.int .i64 (.ofNat 20))) .nil) (lf (.int .i64 (.ofNat 4)))) (nd (.int .i64 (.ofNat 9)) (nd (.str 1 59) (lf (.int .i64 (.ofNat 0))) .nil) (lf (.int .i64 (.ofNat 21)))))) (nd (.int .i64 (.ofNat 0)) (nd (.int .i64 (.ofNat 9)) (nd (.int .i64 (.ofNat 7)) jv (lf (.int .i64 (.ofNat 1)))) dR) (nd (.str 5 461229747266) (nd (.int .i64 (.ofNat 2)) (nd (.int .i64 (.ofNat 14)) (lf (.int .i64 (.ofNat 55))) .nil) (lf (.str 1 49))) (nd (.int .i64 (.ofNat 1)) OX (lf (.int .i64 (.ofNat 1))))))) (nd (.int .i64 (.ofNat 2)) (nd (.int .i64 (.ofNat 7)) (nd (.str 1 58) (nd (.int .i64 (.ofNat 2)) (nd (.int .i64 (.ofNat 12)) (lf (.int .i64 (.ofNat 39))) .nil) (lf (.str 1 125))) (nd (.int .i64 (.ofNat 23)) y97 (lf (.int .i64 (.ofNat 4))))) (nd (.int .i64 (.ofNat 5)) (nd (.int .i64 (.ofNat 0)) (nd (.int .i64 (.ofNat 4)) (lf (.str 1 58)) .nil) (lf (.int .i64 (.ofNat 19)))) (nd (.str 1 59) (nd (.int .i64 (.ofNat 3)) (lf (.int .i64 (.ofNat 1))) .nil) (lf (.int .i64 (.ofNat 2)))))) (nd (.int .i64 (.ofNat 2)) (nd (.int .i64 (.ofNat 0)) (nd (.str 5 228492391734) (nd (.int .i64 (.ofNat 19)) (lf (.int .i64 (.ofNat 2))) .nil) (lf (.int .i64 (.ofNat 0)))) (nd (.int .i64 (.ofNat 4)) (nd (.int .i64 (.ofNat 15)) (lf (.int .i64 (.ofNat 73))) .nil) (lf (.str 1 123)))) (nd (.int .i64 (.ofNat 15)) (nd (.int .i64 (.ofNat 8)) (nd (.str 1 123) (lf (.int .i64 (.ofNat 5))) .nil) (lf (.int .i64 (.ofNat 16)))) (nd (.int .i64 (.ofNat 0)) (lf (.int .i64 (.ofNat 1))) (lf (.int .i64 (.ofNat 20)))))))) (nd (.str 1 59) (nd (.int .i64 (.ofNat 1)) (nd (.int .i64 (.ofNat 4)) (nd (.int .i64 (.ofNat 0)) (nd (.str 4 1953393013) iX (lf (.int .i64 (.ofNat 0)))) (nd (.int .i64 (.ofNat 4)) (nd (.int .i64 (.ofNat 15)) (lf (.int .i64 (.ofNat 63))) .nil) (lf (.str 4 2036625250)))) (nd (.int .i64 (.ofNat 23)) (nd (.int .i64 (.ofNat 8)) (nd (.str 1 59) (lf (.int .i64 (.ofNat 4))) .nil) (lf (.int .i64 (.ofNat 5)))) (nd (.int .i64 (.ofNat 0)) (nd (.int .i64 (.ofNat 1)) (lf (.str 5 500135195763)) .nil) (lf (.int .i64 (.ofNat 20)))))) (nd (.str 3 7889261) (nd (.int .i64 (.ofNat 4)) (nd (.int .i64 (.ofNat 0)) fA (lf (.int .i64 (.ofNat 18)))) (nd (.str 5 495623371106) (nd (.int .i64 (.ofNat 17)) (lf (.int .i64 (.ofNat 4))) .nil) (lf (.int .i64 (.ofNat 0))))) (nd (.int .i64 (.ofNat 4)) (nd (.int .i64 (.ofNat 14)) y97 (lf (.int .i64 (.ofNat 4)))) (nd (.int .i64 (.ofNat 11)) (lf (.str 1 48)) (lf (.int .i64 (.ofNat 27))))))) (nd (.int .i64 (.ofNat 0)) (nd (.int .i64 (.ofNat 3)) (nd (.int .i64 (.ofNat 1)) (nd (.int .i64 (.ofNat 16)) y97 (lf (.int .i64 (.ofNat 1)))) (nd (.int .i64 (.ofNat 9)) jv (lf (.int .i64 (.ofNat 7))))) (nd (.int .i64 (.ofNat 0)) (nd (.str 4 1953393013) (nd (.int .i64 (.ofNat 1)) (lf (.int .i64 (.ofNat 1))) .nil) (lf (.int .i64 (.ofNat 16)))) (nd (.int .i64 (.ofNat 4)) (nd (.int .i64 (.ofNat 16)) (lf (.int .i64 (.ofNat 7))) .nil) (lf (.str 1 58))))) (nd (.int .i64 (.ofNat 21)) (nd (.str 2 13873) (nd (.int .i64 (.ofNat 4)) (nd (.int .i64 (.ofNat 12)) (lf (.int .i64 (.ofNat 49))) .nil) (lf (.str 2 28783))) (nd (.int .i64 (.ofNat 15)) fk (lf (.int .i64 (.ofNat 2))))) (nd (.int .i64 (.ofNat 7)) (nd (.int .i64 (.ofNat 0)) b9 (lf (.int .i64 (.ofNat 19)))) (nd (.str 1 123) (lf (.int .i64 (.ofNat 19))) (lf (.int .i64 (.ofNat 3))))))))) (nd (.int .i64 (.ofNat 1)) (nd (.int .i64 (.ofNat 10)) (nd (.int .i64 (.ofNat 0)) (nd (.int .i64 (.ofNat 3)) (nd (.int .i64 (.ofNat 1)) fq (nd (.int .i64 (.ofNat 8)) (nd (.str 1 58) (lf (.int .i64 (.ofNat 5))) .nil) (lf (.int .i64 (.ofNat 19))))) (nd (.int .i64 (.ofNat 0)) (nd (.str 4 1702521203) (nd (.int .i64 (.ofNat 22)) (lf (.int .i64 (.ofNat 2))) .nil) (lf (.int .i64 (.ofNat 0)))) (nd (.int .i64 (.ofNat 4)) (nd (.int .i64 (.ofNat 15)) (lf (.int .i64 (.ofNat 1))) .nil) (lf (.str 2 11822))))) (nd (.int .i64 (.ofNat 15)) (nd (.str 1 48) (nd (.int .i64 (.ofNat 4)) (nd (.int .i64 (.ofNat 12)) (lf (.int .i64 (.ofNat 42))) .nil) (lf (.str 6 127978942194000))) (nd (.int .i64 (.ofNat 7)) y97 (lf (.int .i64 (.ofNat 1))))) (nd (.int .i64 (.ofNat 6)) (nd (.int .i64 (.ofNat 16)) jW (lf (.int .i64 (.ofNat 19)))) (nd (.str 7 28542640894207341) (lf (.int .i64 (.ofNat 11))) (lf (.int .i64 (.ofNat 0))))))) (nd (.int .i64 (.ofNat 4)) (nd (.str 5 465625706101) (nd (.int .i64 (.ofNat 4)) (nd (.int .i64 (.ofNat 16)) fT (lf (.int .i64 (.ofNat 17)))) (nd (.str 4 1635017060) ji (lf (.int .i64 (.ofNat 0))))) (nd (.int .i64 (.ofNat 1)) (nd (.int .i64 (.ofNat 7)) y97 (lf (.int .i64 (.ofNat 2)))) (nd (.int .i64 (.ofNat 9)) (nd (.str 1 58) (lf (.int .i64 (.ofNat 0))) .nil) (lf (.int .i64 (.ofNat 24)))))) (nd (.int .i64 (.ofNat 128)) (nd (.int .i64 (.ofNat 17)) (nd (.int .i64 (.ofNat 7)) (nd (.str 2 11822) (lf (.int .i64 (.ofNat 4))) .nil) (lf (.int .i64 (.ofNat 16)))) dR) (nd (.str 6 125779768604014) (nd (.int .i64 (.ofNat 4)) (nd (.int .i64 (.ofNat 14)) (lf (.int .i64 (.ofNat 60))) .nil) (lf (.str 1 53))) (nd (.int .i64 (.ofNat 9)) (lf (.int .i64 (.ofNat 0))) (lf (.int .i64 (.ofNat 2)))))))) (nd (.int .i64 (.ofNat 1)) (nd (.str 7 32777976897693010) (nd (.int .i64 (.ofNat 0)) (nd (.int .i64 (.ofNat 3)) (nd (.int .i64 (.ofNat 7)) (nd (.str 1 58) (lf (.int .i64 (.ofNat 3))) .nil) (lf (.int .i64 (.ofNat 26)))) (nd (.int .i64 (.ofNat 0)) fT (lf (.int .i64 (.ofNat 20))))) (nd (.str 1 125) (nd (.int .i64 (.ofNat 4)) (nd (.int .i64 (.ofNat 12)) (lf (.int .i64 (.ofNat 52))) .nil) (lf (.str 4 1953393013))) (nd (.int .i64 (.ofNat 20)) OX (lf (.int .i64 (.ofNat 2)))))) (nd (.int .i64 (.ofNat 3)) (nd (.int .i64 (.ofNat 1)) (nd (.int .i64 (.ofNat 20)) y97 (lf (.int .i64 (.ofNat 4)))) (nd (.int .i64 (.ofNat 9)) (nd (.str 2 11822) (lf (.int .i64 (.ofNat 0))) .nil) (lf (.int .i64 (.ofNat 16))))) (nd (.int .i64 (.ofNat 0)) (nd (.str 1 48) (nd (.int .i64 (.ofNat 9)) (lf (.int .i64 (.ofNat 2))) .nil) (lf (.int .i64 (.ofNat 0)))) (nd (.int .i64 (.ofNat 1)) (lf (.int .i64 (.ofNat 16))) (lf (.str 1 59)))))) (nd (.int .i64 (.ofNat 17)) (nd (.int .i64 (.ofNat 2)) (nd (.int .i64 (.ofNat 0)) (nd (.str 1 48) (nd (.int .i64 (.ofNat 11)) (lf (.int .i64 (.ofNat 1))) .nil) (lf (.int .i64 (.ofNat 0)))) (nd (.int .i64 (.ofNat 4)) (nd (.int .i64 (.ofNat 15)) (lf (.int .i64 (.ofNat 66))) .nil) (lf (.str 6 111477645076579)))) (nd (.int .i64 (.ofNat 1)) (nd (.int .i64 (.ofNat 8)) (nd (.str 7 28542640894207341) (lf (.int .i64 (.ofNat 0))) .nil) (lf (.int .i64 (.ofNat 12)))) (nd (.int .i64 (.ofNat 0)) jW (lf (.int .i64 (.ofNat 20)))))) (nd (.str 1 59) (nd (.int .i64 (.ofNat 4)) (nd (.int .i64 (.ofNat 0)) (nd (.int .i64 (.ofNat 2)) (lf (.str 2 11822)) .nil) (lf (.int .i64 (.ofNat 19)))) (nd (.str 4 1702521203) dr (lf (.int .i64 (.ofNat 1))))) (nd (.int .i64 (.ofNat 4)) (nd (.int .i64 (.ofNat 18)) y97 (lf (.int .i64 (.ofNat 4)))) (nd (.int .i64 (.ofNat 11)) (lf (.str 3 3158066)) (lf (.int .i64 (.ofNat 36)))))))))) (nd (.int .i64 (.ofNat 0)) (nd (.int .i64 (.ofNat 1)) (nd (.int .i64 (.ofNat 1)) (nd (.str 7 28542640894207341) (nd (.int .i64 (.ofNat 0)) (nd (.int .i64 (.ofNat 24)) (nd (.int .i64 (.ofNat 7)) (nd (.str 6 125779768604014) (lf (.int .i64 (.ofNat 0))) .nil) (lf (.int .i64 (.ofNat 23)))) (nd (.int .i64 (.ofNat 512)) jS (lf (.int .i64 (.ofNat 19))))) (nd (.str 1 59) (nd (.int .i64 (.ofNat 1)) (nd (.int .i64 (.ofNat 12)) (lf (.int .i64 (.ofNat 50))) .nil) (lf (.str 1 58))) (nd (.int .i64 (.ofNat 16)) y24 (lf (.int .i64 (.ofNat 4)))))) (nd (.int .i64 (.ofNat 3)) (nd (.int .i64 (.ofNat 2)) (nd (.int .i64 (.ofNat 19)) dF (lf (.int .i64 (.ofNat 1)))) (nd (.int .i64 (.ofNat 9)) f8 (lf (.int .i64 (.ofNat 9))))) (nd (.int .i64 (.ofNat 0)) (nd (.str 2 13873) (nd (.int .i64 (.ofNat 1)) (lf (.int .i64 (.ofNat 4))) .nil) (lf (.int .i64 (.ofNat 1)))) (nd (.int .i64 (.ofNat 1)) (nd (.int .i64 (.ofNat 16)) (lf (.int .i64 (.ofNat 13))) .nil) (lf (.str 7 32777976897693010)))))) (nd (.int .i64 (.ofNat 9)) (nd (.int .i64 (.ofNat 1)) (nd (.int .i64 (.ofNat 0)) (nd (.str 2 13873) UZ (lf (.int .i64 (.ofNat 0)))) (nd (.int .i64 (.ofNat 1)) (nd (.int .i64 (.ofNat 15)) (lf (.int .i64 (.ofNat 64))) .nil) (lf (.str 1 58)))) (nd (.int .i64 (.ofNat 1)) (nd (.int .i64 (.ofNat 8)) (nd (.str 1 125) (lf (.int .i64 (.ofNat 0))) .nil) (lf (.int .i64 (.ofNat 7)))) (nd (.int .i64 (.ofNat 0)) (nd (.int .i64 (.ofNat 4)) (lf (.str 6 127978942194000)) .nil) (lf (.int .i64 (.ofNat 20)))))) (nd (.str 3 3682865) (nd (.int .i64 (.ofNat 4)) (nd (.int .i64 (.ofNat 65535)) jX (lf (.int .i64 (.ofNat 18)))) (nd (.str 1 91) (nd (.int .i64 (.ofNat 18)) (lf (.int .i64 (.ofNat 4))) .nil) (lf (.int .i64 (.ofNat 0))))) (nd (.int .i64 (.ofNat 1)) (nd (.int .i64 (.ofNat 17)) y97 (lf (.int .i64 (.ofNat 2)))) (nd (.int .i64 (.ofNat 11)) (lf (.str 3 7889261)) (lf (.int .i64 (.ofNat 34)))))))) (nd (.int .i64 (.ofNat 0)) (nd (.int .i64 (.ofNat 1)) (nd (.str 1 58) (nd (.int .i64 (.ofNat 4)) (nd (.int .i64 (.ofNat 0)) (nd (.int .i64 (.ofNat 4)) (lf (.str 1 51)) .nil) (lf (.int .i64 (.ofNat 16)))) (nd (.str 1 59) (nd (.int .i64 (.ofNat 7)) (lf (.int .i64 (.ofNat 4))) .nil) (lf (.int .i64 (.ofNat 0))))) (nd (.int .i64 (.ofNat 4)) (nd (.int .i64 (.ofNat 3)) y97 (lf (.int .i64 (.ofNat 1)))) (nd (.int .i64 (.ofNat 9)) (nd (.str 6 121424956188018) (lf (.int .i64 (.ofNat 0))) .nil) (lf (.int .i64 (.ofNat 22)))))) (nd (.int .i64 (.ofNat 0)) (nd (.int .i64 (.ofNat 15)) (nd (.int .i64 (.ofNat 7)) f8 (lf (.int .i64 (.ofNat 9)))) bZ) (nd (.str 1 123) (nd (.int .i64 (.ofNat 2)) (nd (.int .i64 (.ofNat 14)) (lf (.int .i64 (.ofNat 58))) .nil) (lf (.str 2 11822))) (nd (.int .i64 (.ofNat 1)) (lf (.int .i64 (.ofNat 0))) (lf (.int .i64 (.ofNat 4))))))) (nd (.int .i64 (.ofNat 2)) (nd (.int .i64 (.ofNat 9)) (nd (.str 5 465625706101) (nd (.int .i64 (.ofNat 2)) (nd (.int .i64 (.ofNat 12)) (lf (.int .i64 (.ofNat 40))) .nil) (lf (.str 7 28542640894207341))) (nd (.int .i64 (.ofNat 3)) dF (lf (.int .i64 (.ofNat 1))))) (nd (.int .i64 (.ofNat 6)) (nd (.int .i64 (.ofNat 0)) (nd (.int .i64 (.ofNat 1)) (lf (.str 3 7037761)) .nil) (lf (.int .i64 (.ofNat 19)))) (nd (.str 1 125) UZ (lf (.int .i64 (.ofNat 0)))))) (nd (.int .i64 (.ofNat 4)) (nd (.int .i64 (.ofNat 16)) (nd (.str 1 59) dr (lf (.int .i64 (.ofNat 0)))) (nd (.int .i64 (.ofNat 1)) (nd (.int .i64 (.ofNat 15)) (lf (.int .i64 (.ofNat 74))) .nil) (lf (.str 1 49)))) (nd (.int .i64 (.ofNat 3)) (nd (.int .i64 (.ofNat 8)) (nd (.str 4 1701080931) (lf (.int .i64 (.ofNat 0))) .nil) (lf (.int .i64 (.ofNat 18)))) eN))))) (nd (.str 5 495622842726) (nd (.int .i64 (.ofNat 4)) (nd (.int .i64 (.ofNat 2)) (nd (.int .i64 (.ofNat 3)) (nd (.str 4 1701080941) (nd (.int .i64 (.ofNat 1)) (nd (.int .i64 (.ofNat 12)) (lf (.int .i64 (.ofNat 37))) .nil) (lf (.str 1 59))) (nd (.int .i64 (.ofNat 20)) y97 (lf (.int .i64 (.ofNat 1))))) (nd (.int .i64 (.ofNat 4)) (nd (.int .i64 (.ofNat 0)) jX (lf (.int .i64 (.ofNat 19)))) (nd (.str 1 93) (nd (.int .i64 (.ofNat 21)) (lf (.int .i64 (.ofNat 1))) .nil) (lf (.int .i64 (.ofNat 0)))))) (nd (.int .i64 (.ofNat 1)) (nd (.int .i64 (.ofNat 0)) (nd (.str 2 11822) (nd (.int .i64 (.ofNat 16)) (lf (.int .i64 (.ofNat 4))) .nil) (lf (.int .i64 (.ofNat 0)))) (nd (.int .i64 (.ofNat 1)) (nd (.int .i64 (.ofNat 15)) (lf (.int .i64 (.ofNat 71))) .nil) (lf (.str 2 28783)))) (nd (.int .i64 (.ofNat 9)) (nd (.int .i64 (.ofNat 8)) (nd (.str 5 500035838278) (lf (.int .i64 (.ofNat 0))) .nil) (lf (.int .i64 (.ofNat 15)))) eN))) (nd (.str 1 123) (nd (.int .i64 (.ofNat 0)) (nd (.int .i64 (.ofNat 7)) (nd (.int .i64 (.ofNat 7)) dE (lf (.int .i64 (.ofNat 1)))) (nd (.int .i64 (.ofNat 0)) (nd (.int .i64 (.ofNat 2)) (lf (.str 5 500035838278)) .nil) (lf (.int .i64 (.ofNat 20))))) (nd (.str 7 28542640894207341) (nd (.int .i64 (.ofNat 1)) (nd (.int .i64 (.ofNat 13)) (lf (.int .i64 (.ofNat 53))) .nil) (lf (.str 2 13873))) (nd (.int .i64 (.ofNat 21)) OX (lf (.int .i64 (.ofNat 4)))))) (nd (.int .i64 (.ofNat 3)) (nd (.int .i64 (.ofNat 2)) (nd (.int .i64 (.ofNat 22)) y97 (lf (.int .i64 (.ofNat 1)))) (nd (.int .i64 (.ofNat 9)) (nd (.str 1 56) (lf (.int .i64 (.ofNat 0))) .nil) (lf (.int .i64 (.ofNat 19))))) (nd (.int .i64 (.ofNat 0)) (nd (.str 2 11822) (nd (.int .i64 (.ofNat 15)) (lf (.int .i64 (.ofNat 4))) .nil) (lf (.int .i64 (.ofNat 5)))) (nd (.int .i64 (.ofNat 4)) (lf (.int .i64 (.ofNat 16))) (lf (.str 1 51))))))) (nd (.int .i64 (.ofNat 15)) (nd (.int .i64 (.ofNat 0)) (nd (.int .i64 (.ofNat 3)) (nd (.int .i64 (.ofNat 4)) (nd (.int .i64 (.ofNat 11)) y97 (lf (.int .i64 (.ofNat 4)))) (nd (.int .i64 (.ofNat 8)) dE (lf (.int .i64 (.ofNat 3))))) (nd (.int .i64 (.ofNat 0)) (nd (.str 1 58) (nd (.int .i64 (.ofNat 27)) (lf (.int .i64 (.ofNat 4))) .nil) (lf (.int .i64 (.ofNat 0)))) (nd (.int .i64 (.ofNat 4)) (nd (.int .i64 (.ofNat 16)) (lf (.int .i64 (.ofNat 1))) .nil) (lf (.str 1 50))))) (nd (.int .i64 (.ofNat 17)) (nd (.str 3 7889261) (nd (.int .i64 (.ofNat 2)) (nd (.int .i64 (.ofNat 12)) (lf (.int .i64 (.ofNat 47))) .nil) (lf (.str 1 123))) fq) (nd (.int .i64 (.ofNat 6)) (nd (.int .i64 (.ofNat 0)) jS (lf (.int .i64 (.ofNat 19)))) (nd (.str 3 7037761) (lf (.int .i64 (.ofNat 17))) (lf (.int .i64 (.ofNat 0))))))) (nd (.int .i64 (.ofNat 1)) (nd (.str 1 48) (nd (.int .i64 (.ofNat 4)) (nd (.int .i64 (.ofNat 0)) (nd (.int .i64 (.ofNat 2)) (lf (.str 5 461229747266)) .nil) (lf (.int .i64 (.ofNat 18)))) (nd (.str 1 58) (nd (.int .i64 (.ofNat 14)) (lf (.int .i64 (.ofNat 4))) .nil) (lf (.int .i64 (.ofNat 0))))) (nd (.int .i64 (.ofNat 1)) (nd (.int .i64 (.ofNat 9)) y97 (lf (.int .i64 (.ofNat 2)))) (nd (.int .i64 (.ofNat 10)) (nd (.str 5 465625706101) (lf (.int .i64 (.ofNat 0))) .nil) (lf (.int .i64 (.ofNat 25)))))) (nd (.int .i64 (.ofNat 0)) (nd (.int .i64 (.ofNat 21)) (nd (.int .i64 (.ofNat 7)) (nd (.str 5 228492391734) (lf (.int .i64 (.ofNat 0))) .nil) (lf (.int .i64 (.ofNat 3)))) bZ) (nd (.str 1 58) (nd (.int .i64 (.ofNat 2)) (nd (.int .i64 (.ofNat 15)) (lf (.int .i64 (.ofNat 61))) .nil) (lf (.str 1 59))) (nd (.int .i64 (.ofNat 13)) (lf (.int .i64 (.ofNat 200))) (lf (.int .i64 (.ofNat 4))))))))))))) .nil))
def UU:T Ad:=no .nil (no .nil (no iI .nil))
def Ra:T AV:=nd (.int .i64 (.ofNat 10)) (lf (.int .i64 (.ofNat 0))) (lf (.int .i64 (.ofNat 0)))
def Rt:T AV:=nd (.int .i64 (.negSucc 0)) (lf (.str 0 0)) .nil
def RK:T AV:=nd (.int .i64 (.ofNat 1)) (nd (.str 5 495622842726) (lf (.int .i64 (.ofNat 0))) .nil) (nd (.int .i64 (.negSucc 0)) (lf (.int .i64 (.ofNat 0))) .nil)
def fC:T Ad:=no (no .nil (no .nil (no .nil (no (lf (.cells 1 (lf (.ptr 735 0)))) .nil)))) .nil
def dq:T AV:=nd (.str 0 0) (lf (.str 0 0)) .nil
def V5:T AV:=nd (.int .i64 (.ofNat 1)) (lf (.int .i64 (.ofNat 0))) .nil
def RD:T AV:=nd (.int .i64 (.ofNat 0)) (lf (.int .i64 (.ofNat 0))) .nil
def bU:T Ad:=no .nil (no (no .nil (no (no (lf (.cells 45 (nd (.str 6 125779768604014) (nd (.int .i64 (.ofNat 1)) (nd (.bool false) (nd (.int .i64 (.ofNat 0)) (nd (.str 4 1702521203) (lf (.int .i64 (.ofNat 4))) .nil) (nd .slice0 (lf (.str 0 0)) .nil)) (nd (.str 0 0) (nd (.bool false) (lf (.int .i64 (.ofNat 0))) .nil) (nd .slice0 (lf (.int .i64 (.ofNat 0))) .nil))) (nd (.int .i64 (.ofNat 0)) (nd (.str 0 0) (nd (.int .i64 (.ofNat 16)) (lf (.bool false)) .nil) dq) (nd (.int .i64 (.ofNat 0)) (nd (.int .i64 (.ofNat 512)) (lf (.int .i64 (.ofNat 0))) .nil) (lf (.int .i64 (.ofNat 0)))))) (nd (.int .i64 (.ofNat 16)) (nd (.bool false) (nd .slice0 V5 dq) (nd .slice0 RD RD)) (nd (.int .i64 (.ofNat 65535)) (nd (.str 0 0) (nd (.bool false) (lf (.bool false)) .nil) (nd (.str 0 0) (lf .slice0) .nil)) (nd (.int .i64 (.ofNat 0)) (nd (.int .i64 (.ofNat 0)) (lf (.slice 1184 0 1 2)) .nil) (lf (.str 4 1635017060)))))))) .nil) .nil)) .nil)
def b8:T Ad:=no (no (no .nil (no (no .nil (no (no (lf (.cells 2 (nd (.str 4 1702521203) (lf (.int .i64 (.ofNat 1))) .nil))) .nil) .nil)) .nil)) .nil) .nil
def W6:T Ad:=no b8 .nil
def cR:T AV:=nd (.int .i64 (.ofNat 1)) (lf (.int .i64 (.ofNat 2))) .nil
def bR:T AV:=nd (.int .i64 (.ofNat 6)) (lf (.int .i64 (.ofNat 3))) (lf (.str 5 500035838278))
def fJ:T AV:=nd (.str 5 461229747266) (lf (.int .i64 (.ofNat 1))) (lf (.int .i64 (.negSucc 0)))
def iG:T AV:=nd (.int .i64 (.ofNat 3)) (lf (.str 3 7037761)) .nil
def bS:T AV:=nd (.int .i64 (.ofNat 1)) (lf (.int .i64 (.ofNat 14))) .nil
def ix:T AV:=nd (.int .i64 (.ofNat 9)) (lf (.str 4 1635017060)) (lf (.int .i64 (.ofNat 3)))
def ez:T AV:=nd (.int .i64 (.ofNat 9)) (lf (.int .i64 (.ofNat 9))) .nil
def cp:T Ad:=no (no fC .nil) .nil
def fg:T AV:=nd (.int .i64 (.ofNat 1)) (lf (.int .i64 (.negSucc 0))) (lf (.int .i64 (.ofNat 16)))
def bQ:T AV:=nd (.str 4 1702521203) (lf (.int .i64 (.ofNat 2))) (lf (.int .i64 (.ofNat 1)))
def dw:T AV:=nd (.int .i64 (.ofNat 3)) (nd (.int .i64 (.negSucc 0)) (lf (.int .i64 (.ofNat 11))) (lf (.int .i64 (.ofNat 3)))) bQ
def eZ:T AV:=nd (.int .i64 (.ofNat 0)) fJ (nd (.int .i64 (.ofNat 8)) (lf (.int .i64 (.ofNat 3))) (lf (.str 6 121424956188018)))
def kc:T AV:=nd (.int .i64 (.ofNat 3)) (lf (.str 3 7037761)) (lf (.int .i64 (.ofNat 3)))
def cq:T AV:=nd (.int .i64 (.ofNat 0)) (lf (.int .i64 (.ofNat 12))) (lf (.int .i64 (.ofNat 3)))
def i7:T AV:=nd (.int .i64 (.ofNat 7)) (lf (.int .i64 (.ofNat 9))) (lf (.str 4 1701080931))
def gT:T AV:=nd (.int .i64 (.ofNat 4)) (nd (.int .i64 (.ofNat 1)) (lf (.int .i64 (.ofNat 2))) (lf (.int .i64 (.ofNat 15)))) (nd (.int .i64 (.ofNat 3)) (lf (.str 6 125779768604014)) (lf (.int .i64 (.ofNat 3))))
def cn:T AV:=nd (.str 6 125779768604014) (lf (.int .i64 (.ofNat 2))) (lf (.int .i64 (.ofNat 0)))
def eB:T AV:=nd (.str 0 0) (lf (.bool false)) (lf .slice0)
def iT:T AV:=nd (.str 0 0) (lf (.int .i64 (.ofNat 0))) (lf (.str 0 0))
def ic:T AV:=nd .slice0 (lf (.int .i64 (.ofNat 0))) (lf (.int .i64 (.ofNat 0)))
def dg:T AV:=nd (.bool false) (nd .slice0 (lf (.int .i64 (.ofNat 5))) (lf (.str 0 0))) ic
def Xp:T AV:=nd (.str 0 0) (lf (.bool false)) (lf (.str 0 0))
def ep:T Ad:=no (no .nil (no .nil (no .nil (no (lf (.cells 30 (nd (.str 4 1701080931) (nd (.int .i64 (.ofNat 1)) (nd (.bool false) (nd (.int .i64 (.ofNat 0)) (lf (.str 6 121424956188018)) (lf .slice0)) eB) (nd (.int .i64 (.ofNat 0)) iT (nd (.int .i64 (.ofNat 0)) (lf (.int .i64 (.ofNat 200))) (lf (.int .i64 (.ofNat 0)))))) (nd (.int .i64 (.ofNat 16)) dg (nd (.int .i64 (.ofNat 8)) Xp RD))))) .nil)))) .nil
def jo:T AV:=nd (.int .i64 (.ofNat 3)) (lf (.int .i64 (.ofNat 4))) .nil
def jK:T AV:=nd (.int .i64 (.ofNat 6)) jo (lf (.str 5 500035838278))
def d5:T AV:=nd (.int .i64 (.ofNat 1)) (lf (.int .i64 (.ofNat 14))) (lf (.int .i64 (.ofNat 9)))
def fy:T AV:=nd (.int .i64 (.ofNat 9)) (nd (.str 4 1635017060) (lf (.int .i64 (.negSucc 0))) .nil) (lf (.int .i64 (.ofNat 3)))
def fU:T AV:=nd (.int .i64 (.ofNat 1)) (lf (.int .i64 (.ofNat 0))) (lf (.int .i64 (.ofNat 18)))
def bJ:T AV:=nd (.int .i64 (.ofNat 9)) (lf (.int .i64 (.ofNat 9))) (lf (.str 6 127978942194000))
def ZS:T AV:=nd (.int .i64 (.ofNat 0)) (lf (.int .i64 (.ofNat 0))) (lf (.int .i64 (.ofNat 0)))
def We:T Ad:=no .nil (no (no (no .nil (no .nil (lf (.cells 30 (nd (.str 2 28783) (nd (.int .i64 (.ofNat 1)) (nd (.bool false) (nd (.int .i64 (.ofNat 0)) (lf (.str 4 2036625250)) (lf .slice0)) (nd (.str 0 0) (lf (.bool false)) (lf (.slice 1821 0 4 3)))) (nd (.int .i64 (.ofNat 1)) (nd (.str 0 0) (lf (.int .i64 (.ofNat 0))) (lf (.str 2 28783))) ZS)) (nd (.int .i64 (.ofNat 16)) (nd (.bool false) (nd .slice0 (lf (.int .i64 (.ofNat 9))) (lf (.str 0 0))) ic) (nd (.int .i64 (.ofNat 5)) Xp RD))))))) .nil) .nil)
def jg:T Ad:=no .nil (no (no .nil (no (no (no .nil (lf (.cells 75 (nd (.int .i64 (.ofNat 2)) (nd (.int .i64 (.ofNat 9)) (nd (.int .i64 (.ofNat 0)) (nd (.str 4 1701603686) jK (nd (.int .i64 (.ofNat 1)) (nd (.int .i64 (.negSucc 0)) (lf (.int .i64 (.ofNat 3))) .nil) (lf (.int .i64 (.ofNat 16))))) (nd (.int .i64 (.ofNat 3)) (nd (.int .i64 (.negSucc 0)) (nd (.int .i64 (.ofNat 11)) (lf (.str 2 28783)) .nil) (lf (.int .i64 (.ofNat 3)))) bQ)) (nd (.int .i64 (.ofNat 3)) (nd (.int .i64 (.ofNat 0)) (nd (.str 5 461229747266) (nd (.int .i64 (.ofNat 1)) (lf (.int .i64 (.ofNat 19))) .nil) (lf (.int .i64 (.negSucc 0)))) (nd (.int .i64 (.ofNat 8)) jo (lf (.str 6 121424956188018)))) (nd (.int .i64 (.ofNat 0)) (nd (.int .i64 (.ofNat 3)) (nd (.str 3 7037761) (lf (.int .i64 (.ofNat 0))) .nil) (lf (.int .i64 (.ofNat 3)))) d5))) (nd (.str 7 32777976897693010) (nd (.int .i64 (.negSucc 0)) (nd (.int .i64 (.ofNat 0)) fy (nd (.int .i64 (.ofNat 0)) (nd (.int .i64 (.ofNat 12)) (lf (.str 4 2036625250)) .nil) (lf (.int .i64 (.ofNat 3))))) (nd (.str 4 1701080941) (nd (.int .i64 (.ofNat 7)) UZ (lf (.str 4 1701080931))) fU)) (nd (.int .i64 (.ofNat 3)) (nd (.int .i64 (.ofNat 4)) (nd (.int .i64 (.ofNat 1)) (nd (.int .i64 (.ofNat 2)) (lf (.int .i64 (.ofNat 3))) .nil) (lf (.int .i64 (.ofNat 15)))) (nd (.int .i64 (.ofNat 3)) (nd (.str 6 125779768604014) (lf (.int .i64 (.ofNat 1))) .nil) (lf (.int .i64 (.ofNat 3))))) (nd (.int .i64 (.ofNat 1)) (nd (.str 6 125779768604014) (nd (.int .i64 (.ofNat 2)) (lf (.int .i64 (.ofNat 20))) .nil) (lf (.int .i64 (.ofNat 0)))) bJ))))))) .nil) .nil)) .nil)
def cr:T Ad:=no (no (no (no .nil (no .nil (lf (.cells 12 (nd (.int .i64 (.ofNat 1)) (nd (.int .i64 (.ofNat 2)) (nd (.int .i64 (.ofNat 3)) (lf (.int .i64 (.ofNat 4))) (lf (.str 5 500035838278))) (nd (.str 5 461229747266) (lf (.int .i64 (.ofNat 5))) .nil)) (nd (.str 7 32777976897693010) iG (nd (.int .i64 (.ofNat 4)) (lf (.int .i64 (.ofNat 5))) .nil))))))) .nil) .nil) .nil
def hI:T Ad:=no .nil (no (no (no .nil (no .nil (lf (.cells 30 (nd (.str 4 1701603686) (nd (.int .i64 (.ofNat 5)) (nd (.bool false) (nd (.int .i64 (.ofNat 0)) (lf (.str 4 1701080941)) (lf .slice0)) eB) (nd (.int .i64 (.ofNat 0)) iT (nd (.int .i64 (.ofNat 0)) (lf (.int .i64 (.ofNat 16))) (lf (.int .i64 (.ofNat 0)))))) (nd (.int .i64 (.ofNat 0)) dg (nd (.int .i64 (.ofNat 128)) Xp RD))))))) .nil) .nil)
def da:T Ad:=no bU cr
def fS:T Ad:=no .nil (no .nil da)
def Zz:T Ad:=no (no (no (no .nil (no (no .nil (no .nil (lf (.cells 10 (nd (.str 7 32777976897693010) (nd (.slice 915 0 2 15) (nd (.slice 1197 0 3 15) (lf (.slice 1490 0 2 15)) .nil) (nd (.slice 1310 0 1 15) (lf (.slice 1839 0 2 15)) .nil)) (nd (.str 5 461229747266) (nd (.str 3 7037761) (lf (.str 6 127978942194000)) .nil) (lf (.str 5 500035838278)))))))) .nil)) .nil) ep) .nil
def iM:T Ad:=no (no .nil (no (lf (.cells 15 (nd (.str 6 125779768604014) (nd (.int .i64 (.ofNat 1)) (nd (.bool false) (lf (.int .i64 (.ofNat 0))) (lf (.str 0 0))) (nd (.int .i64 (.ofNat 0)) (lf (.str 0 0)) (lf (.int .i64 (.ofNat 0))))) (nd (.int .i64 (.ofNat 16)) (nd (.bool false) (lf .slice0) (lf .slice0)) (nd (.int .i64 (.ofNat 65535)) (lf (.str 0 0)) (lf (.int .i64 (.ofNat 0)))))))) .nil)) .nil
def eI:T Ad:=no (no (no .nil We) .nil) (no hI .nil)
def jL:T Ad:=no .nil (no (no iM .nil) .nil)
def g6:T Ad:=no (no .nil (no .nil (no .nil (no (no (no (lf (.cells 14 (nd (.str 24 1229098986481109979246760173774879750559860365092310967667) (nd (.str 11 122570967502344540451008370) (nd (.str 15 562744202170581634498970250853315699) (lf (.str 30 789533352409273375229327438859413721772607407619008601618563932820436083)) (lf (.str 37 50422771405094346315967137660349769906106814241767673640040480709312337762094589791270003))) (nd (.str 33 13246171592574499840092527255662415629440327117341997935721940405941934907290739) (lf (.str 16 144062515755668893821575039809493234803)) (lf (.str 34 3005431378191372527273977002375776235204169338404008514957186817986463882916754547)))) (nd (.str 15 265464928953869816130873558310416227) (nd (.str 10 521331526989781162620019) (lf (.str 11 138296484283042423840206706)) (lf (.str 37 50422771405094346233577961052706535100125123613423833869086332475582389266494340609700979))) (nd (.str 51 126855000315515036779351538493944184116636336978109858067731874654657623036564341789607337409718587076950303785330640516211) (lf (.str 10 479143318045624222446707)) .nil))))) .nil) .nil) .nil)))) .nil
def bI:T Ad:=no (no (no .nil (no (no (lf (.cells 6 (nd (.str 4 1885697139) (nd (.str 4 1852141647) (lf (.str 4 1684956531)) (lf (.str 6 125779919729250))) (nd (.str 3 6710863) (lf (.str 4 1735289168)) .nil)))) .nil) .nil)) .nil) .nil
def e9:T Ad:=no .nil (no (no g6 (no .nil (no bI .nil))) .nil)
def fD:T Ad:=no (no (no .nil (no .nil (no .nil (no (no (no (lf (.cells 3 (nd (.slice 2273 0 14 1) (lf (.int .i64 (.ofNat 8))) (lf (.slice 2329 6 0 1))))) .nil) .nil) .nil)))) .nil) .nil
def kj:T Ad:=no .nil (no fD .nil)
def jt:T AV:=nd (.int .i64 (.ofNat 0)) (lf (.bool false)) .nil
def il:T Ad:=no .nil (no .nil (no (no (no (lf (.cells 6 (nd (.str 3 6710863) (nd (.bool true) (lf (.str 4 1852141647)) (lf (.int .i64 (.ofNat 0)))) jt))) .nil) .nil) .nil))
def jG:T AV:=nd (.int .i64 (.ofNat 0)) (lf (.int .i64 (.ofNat 0))) (lf (.str 0 0))
def ZE:T Ad:=no (no (no .nil (no (no (no .nil (no (no (lf (.cells 27 (nd (.str 3 6710863) (nd (.str 4 1852141647) (nd (.str 7 32760384594014019) jG (nd (.int .i64 (.ofNat 1)) (lf (.str 3 6710863)) .nil)) (nd (.str 0 0) (nd (.str 4 1852141647) (lf (.int .i64 (.ofNat 1))) (lf (.int .i64 (.ofNat 0)))) (nd (.str 6 125779919729250) (lf (.str 4 1735289168)) .nil))) (nd (.int .i64 (.ofNat 1)) (nd (.str 6 125779919729250) (nd (.int .i64 (.ofNat 0)) (lf (.int .i64 (.ofNat 2))) (lf (.int .i64 (.ofNat 0)))) (nd (.str 7 29400294205060432) (lf (.int .i64 (.ofNat 1))) .nil)) (nd (.int .i64 (.ofNat 0)) (nd (.str 4 1852141647) (lf (.str 4 1852141647)) (lf (.int .i64 (.ofNat 0)))) (nd (.str 5 474450192499) (lf (.str 6 125779919729250)) .nil)))))) .nil) .nil)) .nil) .nil)) .nil) .nil
def dG:T Ad:=no .nil (no .nil (no .nil (no (no (no (lf (.cells 2 (nd (.str 5 474450192499) (lf (.int .i64 (.ofNat 3))) .nil))) .nil) .nil) .nil)))
def hJ:T Ad:=no .nil (no .nil (no (no (no .nil (no (no (lf (.cells 6 (nd (.str 4 1701602377) (nd (.bool true) (lf (.str 4 1702259020)) (lf (.int .i64 (.ofNat 0)))) jt))) .nil) .nil)) .nil) .nil))
def di:T Ad:=no (no .nil (no (no .nil (no (no (lf (.cells 27 (nd (.str 4 1701602377) (nd (.str 4 1702259020) (nd (.str 7 32760384594014019) jG (nd (.int .i64 (.ofNat 2)) (lf (.str 4 1701602377)) .nil)) (nd (.str 0 0) (nd (.str 4 1702259020) (lf (.int .i64 (.ofNat 0))) (lf (.int .i64 (.ofNat 0)))) (nd (.str 6 111477645534564) (lf (.str 4 1735289168)) .nil))) (nd (.int .i64 (.ofNat 2)) (nd (.str 6 111477645534564) ZS (nd (.str 7 29400294205060432) (lf (.int .i64 (.ofNat 2))) .nil)) (nd (.int .i64 (.ofNat 0)) (nd (.str 4 1702259020) (lf (.str 4 1702259020)) (lf (.int .i64 (.ofNat 0)))) (nd (.str 0 0) (lf (.str 6 111477645534564)) .nil)))))) .nil) .nil)) .nil)) .nil
def iq:T Ad:=no .nil (no .nil il)
def a8:T Ad:=no (no (no (no .nil (no .nil (no (no .nil (no (no (lf (.cells 8 (nd (.str 6 111477645534564) (nd (.slice 2297 0 2 3) (nd (.slice 2341 0 3 9) (lf (.slice 2398 0 3 9)) .nil) (lf (.slice 2358 0 2 3))) (nd (.slice 2286 0 1 2) (lf (.str 6 125779919729250)) (lf .slice0))))) .nil) .nil)) .nil))) .nil) .nil) .nil
def f6:T Ad:=no hJ (no dG di)
def bf:T Ad:=no (no .nil (no (no (no (no .nil (no .nil (no (no .nil (no (no (lf (.cells 4 (nd (.str 6 126870807932788) (nd (.slice 2400 0 2 4) (lf (.int .i64 (.ofNat 2))) .nil) (lf (.int .i64 (.ofNat 1)))))) .nil) .nil)) .nil))) .nil) iq) ZE)) (no a8 (no (no (no (no .nil (no .nil (no (no .nil (no (no (lf (.cells 1 (lf (.func (.func 141) [] [(.ptr 2401 0)])))) .nil) .nil)) .nil))) .nil) .nil) f6))
def RF:AV:=.str 56 116864267180698698643752648497306376112859592516620202478445608736732946888651393269049958926881539486141964259179214259175678625804870
def cV:T Ad:=no (no (no (no .nil (no .nil (no (no .nil (no (lf (.cells 10 (nd (.str 7 32496501869798497) (nd (.int .i64 (.ofNat 107)) (nd .slice0 (lf .slice0) .nil) (nd (.str 5 500069396323) (lf .slice0) .nil)) (nd .slice0 (nd .slice0 (lf .slice0) .nil) (lf (.int .i64 (.ofNat 3))))))) .nil)) .nil))) .nil) .nil) .nil
def aW:T Ad:=no cV .nil
def jz:T Ad:=no (no (no (no (no .nil (no .nil (no (no .nil (no (lf (.cells 5 (nd (.str 4 1684104530) (nd (.int .i64 (.ofNat 0)) (lf .slice0) .nil) (nd .slice0 (lf (.slice 2752 0 2 5)) .nil)))) .nil)) .nil))) .nil) .nil) .nil) .nil
def io:T Ad:=no (no cV (no (no (no (no .nil (no .nil (no (no .nil (no (lf (.cells 15 (nd (.str 4 1953066613) (nd (.int .i64 (.ofNat 1)) (nd .slice0 (lf .slice0) (lf (.int .i64 (.ofNat 0)))) (nd (.str 8 7957695015192261990) (lf .slice0) (lf .slice0))) (nd .slice0 (nd .slice0 (lf .slice0) (lf .slice0)) (nd (.int .i64 (.ofNat 3)) (lf (.str 4 2036625250)) (lf (.slice 2754 0 1 5))))))) .nil)) .nil))) .nil) .nil) .nil)) jz
def o1:Orc:=
 {f:=284,args:=[(.slice 45 0 4 1),(.func (.func 285) [] [(.ptr 88 0)])],part:=(no y6 (no (no (no .nil (no .nil (no (lf (.cells 5 (nd (.int .i64 (.ofNat 0)) y7 y8))) .nil))) (no .nil (no (lf (.cells 4 (nd y9 (nd (.int .i64 (.ofNat 42)) (lf (.int .i64 (.ofNat 9))) .nil) (lf (.int .i64 (.ofNat 3)))))) .nil))) .nil)),nx:=89,ok:=true,v:=(.bool true),out:=(no .nil (no (no (no .nil (no .nil (no (lf (.cells 5 (nd (.int .i64 (.ofNat 1)) y7 y8))) .nil))) y10) .nil)),nx':=89,wr:=[44,88]}
theorem k1:∀[F:Facts],Ab (Env.ofS Tryz.prog [] []) 1000000 o1=true:=by
 intro F
 kernel_rfl
theorem w1 (G:Nat→D→D):o1.Valid Tryz.prog G:=Af.val (okE _ []) (w0 G) k1
def o2:Orc:=
 {f:=308,args:=[(.ptr 44 0),(.int .i64 (.ofNat 416)),(.func (.func 319) [] [])],part:=y11,nx:=91,ok:=true,v:=(.int .i64 (.ofNat 1)),out:=y13,nx':=91,wr:=[44]}
theorem k2:∀[F:Facts],Ab (Env.ofS Tryz.prog [] []) 1000000 o2=true:=by
 intro F
 kernel_rfl
theorem w2 (G:Nat→D→D):o2.Valid Tryz.prog G:=Af.val (okE _ []) (w0 G) k2
def o3:Orc:=
 {f:=282,args:=[(.ptr 44 0)],part:=y11,nx:=91,ok:=true,v:=(.tuple []),out:=y13,nx':=93,wr:=[44]}
theorem k3:∀[F:Facts],Ab (Env.ofS Tryz.prog [o2] []) 1000000 o3=true:=by
 intro F
 kernel_rfl
theorem w3 (G:Nat→D→D):o3.Valid Tryz.prog G:=Af.val (okE _ []) (.cons (w2 G) (w0 G)) k3
def o4:Orc:=
 {f:=284,args:=[(.slice 45 0 4 1),(.func (.func 285) [] [(.ptr 93 0)])],part:=(no (no .nil (no .nil (no .nil (no y2 (no (lf (.cells 5 (nd (.int .i64 (.ofNat 0)) y7 y14))) .nil))))) y12),nx:=94,ok:=true,v:=(.bool true),out:=(no (no .nil (no .nil (no .nil (no .nil (no (lf (.cells 5 (nd (.int .i64 (.ofNat 2)) y7 y14))) .nil))))) y15),nx':=96,wr:=[44,93]}
theorem k4:∀[F:Facts],Ab (Env.ofS Tryz.prog [] []) 1000000 o4=true:=by
 intro F
 kernel_rfl
theorem w4 (G:Nat→D→D):o4.Valid Tryz.prog G:=Af.val (okE _ []) (w0 G) k4
def o5:Orc:=
 {f:=308,args:=[(.ptr 44 0),(.int .i64 (.ofNat 416)),(.func (.func 319) [] [])],part:=y16,nx:=98,ok:=true,v:=(.int .i64 (.ofNat 1)),out:=y18,nx':=98,wr:=[44]}
theorem k5:∀[F:Facts],Ab (Env.ofS Tryz.prog [] []) 1000000 o5=true:=by
 intro F
 kernel_rfl
theorem w5 (G:Nat→D→D):o5.Valid Tryz.prog G:=Af.val (okE _ []) (w0 G) k5
def o6:Orc:=
 {f:=282,args:=[(.ptr 44 0)],part:=y16,nx:=98,ok:=true,v:=(.tuple []),out:=y18,nx':=100,wr:=[44]}
theorem k6:∀[F:Facts],Ab (Env.ofS Tryz.prog [o5] []) 1000000 o6=true:=by
 intro F
 kernel_rfl
theorem w6 (G:Nat→D→D):o6.Valid Tryz.prog G:=Af.val (okE _ []) (.cons (w5 G) (w0 G)) k6
def o7:Orc:=
 {f:=284,args:=[(.slice 45 0 4 1),(.func (.func 285) [] [(.ptr 100 0)])],part:=(no y6 (no (no .nil (no (no (no .nil (lf (.cells 5 (nd (.int .i64 (.ofNat 0)) y7 y19)))) .nil) y17)) .nil)),nx:=101,ok:=true,v:=(.bool true),out:=(no .nil (no (no .nil (no (no (no .nil (lf (.cells 5 (nd (.int .i64 (.ofNat 1)) y7 y19)))) .nil) y20)) .nil)),nx':=101,wr:=[44,100]}
theorem k7:∀[F:Facts],Ab (Env.ofS Tryz.prog [] []) 1000000 o7=true:=by
 intro F
 kernel_rfl
theorem w7 (G:Nat→D→D):o7.Valid Tryz.prog G:=Af.val (okE _ []) (w0 G) k7
def o8:Orc:=
 {f:=308,args:=[(.ptr 44 0),(.int .i64 (.ofNat 416)),(.func (.func 319) [] [])],part:=y21,nx:=103,ok:=true,v:=(.int .i64 (.ofNat 1)),out:=y23,nx':=103,wr:=[44]}
theorem k8:∀[F:Facts],Ab (Env.ofS Tryz.prog [] []) 1000000 o8=true:=by
 intro F
 kernel_rfl
theorem w8 (G:Nat→D→D):o8.Valid Tryz.prog G:=Af.val (okE _ []) (w0 G) k8
def o9:Orc:=
 {f:=282,args:=[(.ptr 44 0)],part:=y21,nx:=103,ok:=true,v:=(.tuple []),out:=y23,nx':=105,wr:=[44]}
theorem k9:∀[F:Facts],Ab (Env.ofS Tryz.prog [o8] []) 1000000 o9=true:=by
 intro F
 kernel_rfl
theorem w9 (G:Nat→D→D):o9.Valid Tryz.prog G:=Af.val (okE _ []) (.cons (w8 G) (w0 G)) k9
def o10:Orc:=
 {f:=284,args:=[(.slice 45 0 4 1),(.func (.func 285) [] [(.ptr 105 0)])],part:=(no (no .nil (no (no .nil (no (no .nil (lf (.cells 5 (nd (.int .i64 (.ofNat 0)) y7 y24)))) .nil)) y4)) y22),nx:=106,ok:=true,v:=(.bool true),out:=(no (no .nil (no (no .nil (no (no .nil (lf (.cells 5 (nd (.int .i64 (.ofNat 2)) y7 (nd (.int .i64 (.ofNat 128)) (lf (.int .i64 (.ofNat 21))) .nil))))) .nil)) .nil)) y25),nx':=108,wr:=[44,105]}
theorem k10:∀[F:Facts],Ab (Env.ofS Tryz.prog [] []) 1000000 o10=true:=by
 intro F
 kernel_rfl
theorem w10 (G:Nat→D→D):o10.Valid Tryz.prog G:=Af.val (okE _ []) (w0 G) k10
def o11:Orc:=
 {f:=282,args:=[(.ptr 44 0)],part:=(no .nil y25),nx:=110,ok:=true,v:=(.tuple []),out:=.nil,nx':=111,wr:=[]}
theorem k11:∀[F:Facts],Ab (Env.ofS Tryz.prog [] []) 1000000 o11=true:=by
 intro F
 kernel_rfl
theorem w11 (G:Nat→D→D):o11.Valid Tryz.prog G:=Af.val (okE _ []) (w0 G) k11
def o12:Orc:=
 {f:=284,args:=[(.slice 45 0 4 1),(.func (.func 285) [] [(.ptr 111 0)])],part:=(no (no (no (no (no .nil (no .nil (lf (.cells 5 (nd (.int .i64 (.ofNat 0)) y7 y26))))) .nil) .nil) y5) y25),nx:=112,ok:=true,v:=(.bool true),out:=(no (no (no (no (no .nil (no .nil (lf (.cells 5 (nd (.int .i64 (.ofNat 4)) y7 y26))))) .nil) .nil) .nil) y27),nx':=113,wr:=[44,111]}
theorem k12:∀[F:Facts],Ab (Env.ofS Tryz.prog [] []) 1000000 o12=true:=by
 intro F
 kernel_rfl
theorem w12 (G:Nat→D→D):o12.Valid Tryz.prog G:=Af.val (okE _ []) (w0 G) k12
def o13:Orc:=
 {f:=308,args:=[(.ptr 44 0),(.int .i64 (.ofNat 416)),(.func (.func 319) [] [])],part:=y28,nx:=115,ok:=true,v:=(.int .i64 (.ofNat 3)),out:=y30,nx':=115,wr:=[44]}
theorem k13:∀[F:Facts],Ab (Env.ofS Tryz.prog [] []) 1000000 o13=true:=by
 intro F
 kernel_rfl
theorem w13 (G:Nat→D→D):o13.Valid Tryz.prog G:=Af.val (okE _ []) (w0 G) k13
def o14:Orc:=
 {f:=282,args:=[(.ptr 44 0)],part:=y28,nx:=115,ok:=true,v:=(.tuple []),out:=y30,nx':=117,wr:=[44]}
theorem k14:∀[F:Facts],Ab (Env.ofS Tryz.prog [o13] []) 1000000 o14=true:=by
 intro F
 kernel_rfl
theorem w14 (G:Nat→D→D):o14.Valid Tryz.prog G:=Af.val (okE _ []) (.cons (w13 G) (w0 G)) k14
def o15:Orc:=
 {f:=284,args:=[(.slice 45 0 4 1),(.func (.func 285) [] [(.ptr 117 0)])],part:=(no (no .nil (no .nil (no (no .nil (no .nil (lf (.cells 5 (nd (.int .i64 (.ofNat 0)) y31 y32))))) y3))) y29),nx:=118,ok:=true,v:=(.bool true),out:=(no (no .nil (no .nil (no (no .nil (no .nil (lf (.cells 5 (nd (.int .i64 (.ofNat 1)) y31 y32))))) .nil))) y33),nx':=118,wr:=[44,117]}
theorem k15:∀[F:Facts],Ab (Env.ofS Tryz.prog [] []) 1000000 o15=true:=by
 intro F
 kernel_rfl
theorem w15 (G:Nat→D→D):o15.Valid Tryz.prog G:=Af.val (okE _ []) (w0 G) k15
def o16:Orc:=
 {f:=282,args:=[(.ptr 44 0)],part:=(no .nil y33),nx:=120,ok:=true,v:=(.tuple []),out:=.nil,nx':=121,wr:=[]}
theorem k16:∀[F:Facts],Ab (Env.ofS Tryz.prog [] []) 1000000 o16=true:=by
 intro F
 kernel_rfl
theorem w16 (G:Nat→D→D):o16.Valid Tryz.prog G:=Af.val (okE _ []) (w0 G) k16
def o17:Orc:=
 {f:=284,args:=[(.slice 45 0 4 1),(.func (.func 285) [] [(.ptr 121 0)])],part:=(no (no .nil (no (no .nil (no .nil (no .nil (lf (.cells 5 (nd (.int .i64 (.ofNat 0)) y31 y34)))))) y4)) y33),nx:=122,ok:=true,v:=(.bool true),out:=(no (no .nil (no (no .nil (no .nil (no .nil (lf (.cells 5 (nd (.int .i64 (.ofNat 4)) y31 y34)))))) .nil)) y35),nx':=123,wr:=[44,121]}
theorem k17:∀[F:Facts],Ab (Env.ofS Tryz.prog [] []) 1000000 o17=true:=by
 intro F
 kernel_rfl
theorem w17 (G:Nat→D→D):o17.Valid Tryz.prog G:=Af.val (okE _ []) (w0 G) k17
def o18:Orc:=
 {f:=308,args:=[(.ptr 44 0),(.int .i64 (.ofNat 416)),(.func (.func 319) [] [])],part:=y36,nx:=125,ok:=true,v:=(.int .i64 (.ofNat 1)),out:=y38,nx':=125,wr:=[44]}
theorem k18:∀[F:Facts],Ab (Env.ofS Tryz.prog [] []) 1000000 o18=true:=by
 intro F
 kernel_rfl
theorem w18 (G:Nat→D→D):o18.Valid Tryz.prog G:=Af.val (okE _ []) (w0 G) k18
def o19:Orc:=
 {f:=282,args:=[(.ptr 44 0)],part:=y36,nx:=125,ok:=true,v:=(.tuple []),out:=y38,nx':=127,wr:=[44]}
theorem k19:∀[F:Facts],Ab (Env.ofS Tryz.prog [o18] []) 1000000 o19=true:=by
 intro F
 kernel_rfl
theorem w19 (G:Nat→D→D):o19.Valid Tryz.prog G:=Af.val (okE _ []) (.cons (w18 G) (w0 G)) k19
def o20:Orc:=
 {f:=284,args:=[(.slice 45 0 4 1),(.func (.func 285) [] [(.ptr 127 0)])],part:=(no (no (no (no (no (no (no (lf (.cells 5 (nd (.int .i64 (.ofNat 0)) y31 y8))) .nil) .nil) .nil) .nil) .nil) y5) y37),nx:=128,ok:=true,v:=(.bool true),out:=(no (no (no (no (no (no (no (lf (.cells 5 (nd (.int .i64 (.ofNat 1)) y31 y8))) .nil) .nil) .nil) .nil) .nil) .nil) y39),nx':=128,wr:=[44,127]}
theorem k20:∀[F:Facts],Ab (Env.ofS Tryz.prog [] []) 1000000 o20=true:=by
 intro F
 kernel_rfl
theorem w20 (G:Nat→D→D):o20.Valid Tryz.prog G:=Af.val (okE _ []) (w0 G) k20
def o21:Orc:=
 {f:=308,args:=[(.ptr 44 0),(.int .i64 (.ofNat 416)),(.func (.func 319) [] [])],part:=y40,nx:=130,ok:=true,v:=(.int .i64 (.ofNat 1)),out:=y42,nx':=130,wr:=[44]}
theorem k21:∀[F:Facts],Ab (Env.ofS Tryz.prog [] []) 1000000 o21=true:=by
 intro F
 kernel_rfl
theorem w21 (G:Nat→D→D):o21.Valid Tryz.prog G:=Af.val (okE _ []) (w0 G) k21
def o22:Orc:=
 {f:=282,args:=[(.ptr 44 0)],part:=y40,nx:=130,ok:=true,v:=(.tuple []),out:=y42,nx':=132,wr:=[44]}
theorem k22:∀[F:Facts],Ab (Env.ofS Tryz.prog [o21] []) 1000000 o22=true:=by
 intro F
 kernel_rfl
theorem w22 (G:Nat→D→D):o22.Valid Tryz.prog G:=Af.val (okE _ []) (.cons (w21 G) (w0 G)) k22
def o23:Orc:=
 {f:=284,args:=[(.slice 45 0 4 1),(.func (.func 285) [] [(.ptr 132 0)])],part:=(no y6 (no (no .nil (no (no (no (no (lf (.cells 5 (nd (.int .i64 (.ofNat 0)) y31 y14))) .nil) .nil) .nil) y41)) .nil)),nx:=133,ok:=true,v:=(.bool true),out:=(no .nil (no (no .nil (no (no (no (no (lf (.cells 5 (nd (.int .i64 (.ofNat 2)) y31 y14))) .nil) .nil) .nil) y43)) .nil)),nx':=135,wr:=[44,132]}
theorem k23:∀[F:Facts],Ab (Env.ofS Tryz.prog [] []) 1000000 o23=true:=by
 intro F
 kernel_rfl
theorem w23 (G:Nat→D→D):o23.Valid Tryz.prog G:=Af.val (okE _ []) (w0 G) k23
def o24:Orc:=
 {f:=308,args:=[(.ptr 44 0),(.int .i64 (.ofNat 416)),(.func (.func 319) [] [])],part:=y44,nx:=137,ok:=true,v:=(.int .i64 (.ofNat 1)),out:=y46,nx':=137,wr:=[44]}
theorem k24:∀[F:Facts],Ab (Env.ofS Tryz.prog [] []) 1000000 o24=true:=by
 intro F
 kernel_rfl
theorem w24 (G:Nat→D→D):o24.Valid Tryz.prog G:=Af.val (okE _ []) (w0 G) k24
def o25:Orc:=
 {f:=282,args:=[(.ptr 44 0)],part:=y44,nx:=137,ok:=true,v:=(.tuple []),out:=y46,nx':=139,wr:=[44]}
theorem k25:∀[F:Facts],Ab (Env.ofS Tryz.prog [o24] []) 1000000 o25=true:=by
 intro F
 kernel_rfl
theorem w25 (G:Nat→D→D):o25.Valid Tryz.prog G:=Af.val (okE _ []) (.cons (w24 G) (w0 G)) k25
def o26:Orc:=
 {f:=284,args:=[(.slice 45 0 4 1),(.func (.func 285) [] [(.ptr 139 0)])],part:=(no (no (no .nil (no .nil (no (no (no (lf (.cells 5 (nd (.int .i64 (.ofNat 0)) y31 y19))) .nil) .nil) .nil))) y5) y45),nx:=140,ok:=true,v:=(.bool true),out:=(no (no (no .nil (no .nil (no (no (no (lf (.cells 5 (nd (.int .i64 (.ofNat 1)) y31 y19))) .nil) .nil) .nil))) .nil) y47),nx':=140,wr:=[44,139]}
theorem k26:∀[F:Facts],Ab (Env.ofS Tryz.prog [] []) 1000000 o26=true:=by
 intro F
 kernel_rfl
theorem w26 (G:Nat→D→D):o26.Valid Tryz.prog G:=Af.val (okE _ []) (w0 G) k26
def o27:Orc:=
 {f:=308,args:=[(.ptr 44 0),(.int .i64 (.ofNat 416)),(.func (.func 319) [] [])],part:=y48,nx:=142,ok:=true,v:=(.int .i64 (.ofNat 1)),out:=y50,nx':=142,wr:=[44]}
theorem k27:∀[F:Facts],Ab (Env.ofS Tryz.prog [] []) 1000000 o27=true:=by
 intro F
 kernel_rfl
theorem w27 (G:Nat→D→D):o27.Valid Tryz.prog G:=Af.val (okE _ []) (w0 G) k27
def o28:Orc:=
 {f:=282,args:=[(.ptr 44 0)],part:=y48,nx:=142,ok:=true,v:=(.tuple []),out:=y50,nx':=144,wr:=[44]}
theorem k28:∀[F:Facts],Ab (Env.ofS Tryz.prog [o27] []) 1000000 o28=true:=by
 intro F
 kernel_rfl
theorem w28 (G:Nat→D→D):o28.Valid Tryz.prog G:=Af.val (okE _ []) (.cons (w27 G) (w0 G)) k28
def o29:Orc:=
 {f:=284,args:=[(.slice 45 0 4 1),(.func (.func 285) [] [(.ptr 144 0)])],part:=(no y6 (no (no (no (no .nil (no (no (lf (.cells 5 (nd (.int .i64 (.ofNat 0)) y31 y24))) .nil) .nil)) .nil) y49) .nil)),nx:=145,ok:=true,v:=(.bool true),out:=(no .nil (no (no (no (no .nil (no (no (lf (.cells 5 (nd (.int .i64 (.ofNat 2)) y31 (nd (.int .i64 (.ofNat 16)) (lf (.int .i64 (.ofNat 21))) .nil)))) .nil) .nil)) .nil) y51) .nil)),nx':=147,wr:=[44,144]}
theorem k29:∀[F:Facts],Ab (Env.ofS Tryz.prog [] []) 1000000 o29=true:=by
 intro F
 kernel_rfl
theorem w29 (G:Nat→D→D):o29.Valid Tryz.prog G:=Af.val (okE _ []) (w0 G) k29
def o30:Orc:=
 {f:=282,args:=[(.ptr 44 0)],part:=(no .nil (no y52 .nil)),nx:=149,ok:=true,v:=(.tuple []),out:=.nil,nx':=150,wr:=[]}
theorem k30:∀[F:Facts],Ab (Env.ofS Tryz.prog [] []) 1000000 o30=true:=by
 intro F
 kernel_rfl
theorem w30 (G:Nat→D→D):o30.Valid Tryz.prog G:=Af.val (okE _ []) (w0 G) k30
def o31:Orc:=
 {f:=284,args:=[(.slice 45 0 4 1),(.func (.func 285) [] [(.ptr 150 0)])],part:=(no y6 (no y52 (no .nil (no (no .nil (no (no (lf (.cells 5 (nd (.int .i64 (.ofNat 0)) y31 y53))) .nil) .nil)) .nil)))),nx:=151,ok:=true,v:=(.bool true),out:=(no .nil (no y54 (no .nil (no (no .nil (no (no (lf (.cells 5 (nd (.int .i64 (.ofNat 4)) y31 y53))) .nil) .nil)) .nil)))),nx':=152,wr:=[44,150]}
theorem k31:∀[F:Facts],Ab (Env.ofS Tryz.prog [] []) 1000000 o31=true:=by
 intro F
 kernel_rfl
theorem w31 (G:Nat→D→D):o31.Valid Tryz.prog G:=Af.val (okE _ []) (w0 G) k31
def o32:Orc:=
 {f:=308,args:=[(.ptr 44 0),(.int .i64 (.ofNat 416)),(.func (.func 319) [] [])],part:=y55,nx:=154,ok:=true,v:=(.int .i64 (.ofNat 1)),out:=y57,nx':=154,wr:=[44]}
theorem k32:∀[F:Facts],Ab (Env.ofS Tryz.prog [] []) 1000000 o32=true:=by
 intro F
 kernel_rfl
theorem w32 (G:Nat→D→D):o32.Valid Tryz.prog G:=Af.val (okE _ []) (w0 G) k32
def o33:Orc:=
 {f:=282,args:=[(.ptr 44 0)],part:=y55,nx:=154,ok:=true,v:=(.tuple []),out:=y57,nx':=156,wr:=[44]}
theorem k33:∀[F:Facts],Ab (Env.ofS Tryz.prog [o32] []) 1000000 o33=true:=by
 intro F
 kernel_rfl
theorem w33 (G:Nat→D→D):o33.Valid Tryz.prog G:=Af.val (okE _ []) (.cons (w32 G) (w0 G)) k33
def o34:Orc:=
 {f:=284,args:=[(.slice 45 0 4 1),(.func (.func 285) [] [(.ptr 156 0)])],part:=(no y6 (no (no .nil (no .nil (no y56 (no (no (lf (.cells 5 (nd (.int .i64 (.ofNat 0)) y58 y59))) .nil) .nil)))) .nil)),nx:=157,ok:=true,v:=(.bool true),out:=(no .nil (no (no .nil (no .nil (no y60 (no (no (lf (.cells 5 (nd (.int .i64 (.ofNat 4)) y58 y59))) .nil) .nil)))) .nil)),nx':=158,wr:=[44,156]}
theorem k34:∀[F:Facts],Ab (Env.ofS Tryz.prog [] []) 1000000 o34=true:=by
 intro F
 kernel_rfl
theorem w34 (G:Nat→D→D):o34.Valid Tryz.prog G:=Af.val (okE _ []) (w0 G) k34
def o35:Orc:=
 {f:=308,args:=[(.ptr 44 0),(.int .i64 (.ofNat 416)),(.func (.func 319) [] [])],part:=y61,nx:=160,ok:=true,v:=(.int .i64 (.ofNat 1)),out:=y63,nx':=160,wr:=[44]}
theorem k35:∀[F:Facts],Ab (Env.ofS Tryz.prog [] []) 1000000 o35=true:=by
 intro F
 kernel_rfl
theorem w35 (G:Nat→D→D):o35.Valid Tryz.prog G:=Af.val (okE _ []) (w0 G) k35
def o36:Orc:=
 {f:=282,args:=[(.ptr 44 0)],part:=y61,nx:=160,ok:=true,v:=(.tuple []),out:=y63,nx':=162,wr:=[44]}
theorem k36:∀[F:Facts],Ab (Env.ofS Tryz.prog [o35] []) 1000000 o36=true:=by
 intro F
 kernel_rfl
theorem w36 (G:Nat→D→D):o36.Valid Tryz.prog G:=Af.val (okE _ []) (.cons (w35 G) (w0 G)) k36
def o37:Orc:=
 {f:=284,args:=[(.slice 45 0 4 1),(.func (.func 285) [] [(.ptr 162 0)])],part:=(no y6 (no y62 (no (no (no (no .nil (no (lf (.cells 5 (nd (.int .i64 (.ofNat 0)) y64 y59))) .nil)) .nil) .nil) .nil))),nx:=163,ok:=true,v:=(.bool true),out:=(no .nil (no y65 (no (no (no (no .nil (no (lf (.cells 5 (nd (.int .i64 (.ofNat 1)) y64 y59))) .nil)) .nil) .nil) .nil))),nx':=163,wr:=[44,162]}
theorem k37:∀[F:Facts],Ab (Env.ofS Tryz.prog [] []) 1000000 o37=true:=by
 intro F
 kernel_rfl
theorem w37 (G:Nat→D→D):o37.Valid Tryz.prog G:=Af.val (okE _ []) (w0 G) k37
def o38:Orc:=
 {f:=308,args:=[(.ptr 44 0),(.int .i64 (.ofNat 416)),(.func (.func 319) [] [])],part:=y66,nx:=165,ok:=true,v:=(.int .i64 (.ofNat 1)),out:=y68,nx':=165,wr:=[44]}
theorem k38:∀[F:Facts],Ab (Env.ofS Tryz.prog [] []) 1000000 o38=true:=by
 intro F
 kernel_rfl
theorem w38 (G:Nat→D→D):o38.Valid Tryz.prog G:=Af.val (okE _ []) (w0 G) k38
def o39:Orc:=
 {f:=282,args:=[(.ptr 44 0)],part:=y66,nx:=165,ok:=true,v:=(.tuple []),out:=y68,nx':=167,wr:=[44]}
theorem k39:∀[F:Facts],Ab (Env.ofS Tryz.prog [o38] []) 1000000 o39=true:=by
 intro F
 kernel_rfl
theorem w39 (G:Nat→D→D):o39.Valid Tryz.prog G:=Af.val (okE _ []) (.cons (w38 G) (w0 G)) k39
def o40:Orc:=
 {f:=284,args:=[(.slice 45 0 4 1),(.func (.func 285) [] [(.ptr 167 0)])],part:=(no (no (no (no .nil (no (no .nil (no (lf (.cells 5 (nd (.int .i64 (.ofNat 0)) y64 y8))) .nil)) .nil)) .nil) y5) y67),nx:=168,ok:=true,v:=(.bool true),out:=(no (no (no (no .nil (no (no .nil (no (lf (.cells 5 (nd (.int .i64 (.ofNat 1)) y64 y8))) .nil)) .nil)) .nil) .nil) y69),nx':=168,wr:=[44,167]}
theorem k40:∀[F:Facts],Ab (Env.ofS Tryz.prog [] []) 1000000 o40=true:=by
 intro F
 kernel_rfl
theorem w40 (G:Nat→D→D):o40.Valid Tryz.prog G:=Af.val (okE _ []) (w0 G) k40
def o41:Orc:=
 {f:=308,args:=[(.ptr 44 0),(.int .i64 (.ofNat 416)),(.func (.func 319) [] [])],part:=y70,nx:=170,ok:=true,v:=(.int .i64 (.ofNat 1)),out:=y72,nx':=170,wr:=[44]}
theorem k41:∀[F:Facts],Ab (Env.ofS Tryz.prog [] []) 1000000 o41=true:=by
 intro F
 kernel_rfl
theorem w41 (G:Nat→D→D):o41.Valid Tryz.prog G:=Af.val (okE _ []) (w0 G) k41
def o42:Orc:=
 {f:=282,args:=[(.ptr 44 0)],part:=y70,nx:=170,ok:=true,v:=(.tuple []),out:=y72,nx':=172,wr:=[44]}
theorem k42:∀[F:Facts],Ab (Env.ofS Tryz.prog [o41] []) 1000000 o42=true:=by
 intro F
 kernel_rfl
theorem w42 (G:Nat→D→D):o42.Valid Tryz.prog G:=Af.val (okE _ []) (.cons (w41 G) (w0 G)) k42
def o43:Orc:=
 {f:=284,args:=[(.slice 45 0 4 1),(.func (.func 285) [] [(.ptr 172 0)])],part:=(no y6 (no (no .nil (no .nil (no (nd y71 .nil (no (lf (.cells 5 (nd (.int .i64 (.ofNat 0)) y64 y14))) .nil)) .nil))) .nil)),nx:=173,ok:=true,v:=(.bool true),out:=(no .nil (no (no .nil (no .nil (no (nd y73 .nil (no (lf (.cells 5 (nd (.int .i64 (.ofNat 4)) y64 y14))) .nil)) .nil))) .nil)),nx':=174,wr:=[44,172]}
theorem k43:∀[F:Facts],Ab (Env.ofS Tryz.prog [] []) 1000000 o43=true:=by
 intro F
 kernel_rfl
theorem w43 (G:Nat→D→D):o43.Valid Tryz.prog G:=Af.val (okE _ []) (w0 G) k43
def o44:Orc:=
 {f:=308,args:=[(.ptr 44 0),(.int .i64 (.ofNat 416)),(.func (.func 319) [] [])],part:=y74,nx:=176,ok:=true,v:=(.int .i64 (.ofNat 3)),out:=y76,nx':=176,wr:=[44]}
theorem k44:∀[F:Facts],Ab (Env.ofS Tryz.prog [] []) 1000000 o44=true:=by
 intro F
 kernel_rfl
theorem w44 (G:Nat→D→D):o44.Valid Tryz.prog G:=Af.val (okE _ []) (w0 G) k44
def o45:Orc:=
 {f:=282,args:=[(.ptr 44 0)],part:=y74,nx:=176,ok:=true,v:=(.tuple []),out:=y76,nx':=178,wr:=[44]}
theorem k45:∀[F:Facts],Ab (Env.ofS Tryz.prog [o44] []) 1000000 o45=true:=by
 intro F
 kernel_rfl
theorem w45 (G:Nat→D→D):o45.Valid Tryz.prog G:=Af.val (okE _ []) (.cons (w44 G) (w0 G)) k45
def o46:Orc:=
 {f:=284,args:=[(.slice 45 0 4 1),(.func (.func 285) [] [(.ptr 178 0)])],part:=(no y6 (no y75 (no (no (no .nil (no .nil (no (lf (.cells 5 (nd (.int .i64 (.ofNat 0)) y77 y32))) .nil))) .nil) .nil))),nx:=179,ok:=true,v:=(.bool true),out:=(no .nil (no y78 (no (no (no .nil (no .nil (no (lf (.cells 5 (nd (.int .i64 (.ofNat 1)) y77 y32))) .nil))) .nil) .nil))),nx':=179,wr:=[44,178]}
theorem k46:∀[F:Facts],Ab (Env.ofS Tryz.prog [] []) 1000000 o46=true:=by
 intro F
 kernel_rfl
theorem w46 (G:Nat→D→D):o46.Valid Tryz.prog G:=Af.val (okE _ []) (w0 G) k46
def o47:Orc:=
 {f:=282,args:=[(.ptr 44 0)],part:=(no .nil (no y78 .nil)),nx:=181,ok:=true,v:=(.tuple []),out:=.nil,nx':=182,wr:=[]}
theorem k47:∀[F:Facts],Ab (Env.ofS Tryz.prog [] []) 1000000 o47=true:=by
 intro F
 kernel_rfl
theorem w47 (G:Nat→D→D):o47.Valid Tryz.prog G:=Af.val (okE _ []) (w0 G) k47
def o48:Orc:=
 {f:=284,args:=[(.slice 45 0 4 1),(.func (.func 285) [] [(.ptr 182 0)])],part:=(no y6 (no y78 (no .nil (no (no .nil (no .nil (no (lf (.cells 5 (nd (.int .i64 (.ofNat 0)) y77 y8))) .nil))) .nil)))),nx:=183,ok:=true,v:=(.bool true),out:=(no .nil (no y79 (no .nil (no (no .nil (no .nil (no (lf (.cells 5 (nd (.int .i64 (.ofNat 4)) y77 y8))) .nil))) .nil)))),nx':=184,wr:=[44,182]}
theorem k48:∀[F:Facts],Ab (Env.ofS Tryz.prog [] []) 1000000 o48=true:=by
 intro F
 kernel_rfl
theorem w48 (G:Nat→D→D):o48.Valid Tryz.prog G:=Af.val (okE _ []) (w0 G) k48
def o49:Orc:=
 {f:=308,args:=[(.ptr 44 0),(.int .i64 (.ofNat 416)),(.func (.func 319) [] [])],part:=y80,nx:=186,ok:=true,v:=(.int .i64 (.ofNat 1)),out:=y82,nx':=186,wr:=[44]}
theorem k49:∀[F:Facts],Ab (Env.ofS Tryz.prog [] []) 1000000 o49=true:=by
 intro F
 kernel_rfl
theorem w49 (G:Nat→D→D):o49.Valid Tryz.prog G:=Af.val (okE _ []) (w0 G) k49
def o50:Orc:=
 {f:=282,args:=[(.ptr 44 0)],part:=y80,nx:=186,ok:=true,v:=(.tuple []),out:=y82,nx':=188,wr:=[44]}
theorem k50:∀[F:Facts],Ab (Env.ofS Tryz.prog [o49] []) 1000000 o50=true:=by
 intro F
 kernel_rfl
theorem w50 (G:Nat→D→D):o50.Valid Tryz.prog G:=Af.val (okE _ []) (.cons (w49 G) (w0 G)) k50
def o51:Orc:=
 {f:=284,args:=[(.slice 45 0 4 1),(.func (.func 285) [] [(.ptr 188 0)])],part:=(no y6 (no (no .nil (no .nil (no y81 (no .nil (no (lf (.cells 5 (nd (.int .i64 (.ofNat 0)) y77 y83))) .nil))))) .nil)),nx:=189,ok:=true,v:=(.bool true),out:=(no .nil (no (no .nil (no .nil (no y84 (no .nil (no (lf (.cells 5 (nd (.int .i64 (.ofNat 1)) y77 y83))) .nil))))) .nil)),nx':=189,wr:=[44,188]}
theorem k51:∀[F:Facts],Ab (Env.ofS Tryz.prog [] []) 1000000 o51=true:=by
 intro F
 kernel_rfl
theorem w51 (G:Nat→D→D):o51.Valid Tryz.prog G:=Af.val (okE _ []) (w0 G) k51
def o52:Orc:=
 {f:=308,args:=[(.ptr 44 0),(.int .i64 (.ofNat 416)),(.func (.func 319) [] [])],part:=y85,nx:=191,ok:=true,v:=(.int .i64 (.ofNat 1)),out:=y87,nx':=191,wr:=[44]}
theorem k52:∀[F:Facts],Ab (Env.ofS Tryz.prog [] []) 1000000 o52=true:=by
 intro F
 kernel_rfl
theorem w52 (G:Nat→D→D):o52.Valid Tryz.prog G:=Af.val (okE _ []) (w0 G) k52
def o53:Orc:=
 {f:=282,args:=[(.ptr 44 0)],part:=y85,nx:=191,ok:=true,v:=(.tuple []),out:=y87,nx':=193,wr:=[44]}
theorem k53:∀[F:Facts],Ab (Env.ofS Tryz.prog [o52] []) 1000000 o53=true:=by
 intro F
 kernel_rfl
theorem w53 (G:Nat→D→D):o53.Valid Tryz.prog G:=Af.val (okE _ []) (.cons (w52 G) (w0 G)) k53
def o54:Orc:=
 {f:=284,args:=[(.slice 45 0 4 1),(.func (.func 285) [] [(.ptr 193 0)])],part:=(no (no .nil (no (no (no (no (no .nil (lf (.cells 5 (nd (.int .i64 (.ofNat 0)) y77 y88)))) .nil) .nil) .nil) y4)) y86),nx:=194,ok:=true,v:=(.bool true),out:=(no (no .nil (no (no (no (no (no .nil (lf (.cells 5 (nd (.int .i64 (.ofNat 2)) y77 y89)))) .nil) .nil) .nil) .nil)) y90),nx':=196,wr:=[44,193]}
theorem k54:∀[F:Facts],Ab (Env.ofS Tryz.prog [] []) 1000000 o54=true:=by
 intro F
 kernel_rfl
theorem w54 (G:Nat→D→D):o54.Valid Tryz.prog G:=Af.val (okE _ []) (w0 G) k54
def o55:Orc:=
 {f:=308,args:=[(.ptr 44 0),(.int .i64 (.ofNat 416)),(.func (.func 319) [] [])],part:=y91,nx:=198,ok:=true,v:=(.int .i64 (.ofNat 1)),out:=y93,nx':=198,wr:=[44]}
theorem k55:∀[F:Facts],Ab (Env.ofS Tryz.prog [] []) 1000000 o55=true:=by
 intro F
 kernel_rfl
theorem w55 (G:Nat→D→D):o55.Valid Tryz.prog G:=Af.val (okE _ []) (w0 G) k55
def o56:Orc:=
 {f:=282,args:=[(.ptr 44 0)],part:=y91,nx:=198,ok:=true,v:=(.tuple []),out:=y93,nx':=200,wr:=[44]}
theorem k56:∀[F:Facts],Ab (Env.ofS Tryz.prog [o55] []) 1000000 o56=true:=by
 intro F
 kernel_rfl
theorem w56 (G:Nat→D→D):o56.Valid Tryz.prog G:=Af.val (okE _ []) (.cons (w55 G) (w0 G)) k56
end Go.Proofs.YtmjeljjkhblgeaaGreatDoor.familyLists

