/- What is proved: that certain calls which the law FamilySessions makes come to the results that are written here (part 1 of 19). Conditions: the memory that such a call reaches is as written here; the kernel runs the evaluator over each. -/
import Derived.Test.YtmjeljjkhblgeaaGreatDoorBeH
import Derived.Test.YtmjeljjkhblgeaaGreatDoorChecked
import Derived.KernelRfl
set_option linter.unusedVariables false
set_option linter.unusedSectionVars false
set_option linter.unusedSimpArgs false
namespace Go.Proofs.YtmjeljjkhblgeaaGreatDoor.familySessions
open Go.AE
def kJ:Shelf.Ren:=⟨fun x=>match x with|156=>40|165=>116|166=>117|169=>118|240=>181|241=>182|276=>234|277=>235|n=>n,fun x=>match x with|31=>82|9=>9|3=>3|4=>4|0=>0|20=>20|72=>172|76=>137|70=>170|37=>30|75=>136|127=>252|164=>301|5=>5|80=>164|n=>n,fun x=>x⟩
theorem An:Proofs.Lays.n156 Tryz.prog kJ where
 mixed:=by kernel_rfl
 f156:=by kernel_rfl
 f165:=by kernel_rfl
 f166:=by kernel_rfl
 f169:=by kernel_rfl
 f240:=by kernel_rfl
 f241:=by kernel_rfl
 f276:=by kernel_rfl
 f277:=by kernel_rfl
 t31:=by kernel_rfl
 a31:=Proofs.Tryz.isAgg82
 z31:=Proofs.Tryz.sizeOf82
 v31:=Proofs.Tryz.zeroValue82
 t9:=by kernel_rfl
 a9:=Proofs.Tryz.isAgg9
 z9:=Proofs.Tryz.sizeOf9
 v9:=Proofs.Tryz.zeroValue9
 t3:=by kernel_rfl
 a3:=Proofs.Tryz.isAgg3
 z3:=Proofs.Tryz.sizeOf3
 v3:=Proofs.Tryz.zeroValue3
 t4:=by kernel_rfl
 a4:=Proofs.Tryz.isAgg4
 z4:=Proofs.Tryz.sizeOf4
 v4:=Proofs.Tryz.zeroValue4
 t0:=by kernel_rfl
 a0:=Proofs.Tryz.isAgg0
 z0:=Proofs.Tryz.sizeOf0
 v0:=Proofs.Tryz.zeroValue0
 t20:=by kernel_rfl
 a20:=Proofs.Tryz.isAgg20
 z20:=Proofs.Tryz.sizeOf20
 v20:=Proofs.Tryz.zeroValue20
 t72:=by kernel_rfl
 a72:=Proofs.Tryz.isAgg172
 z72:=Proofs.Tryz.sizeOf172
 v72:=Proofs.Tryz.zeroValue172
 t76:=by kernel_rfl
 a76:=Proofs.Tryz.isAgg137
 z76:=Proofs.Tryz.sizeOf137
 v76:=Proofs.Tryz.zeroValue137
 t70:=by kernel_rfl
 a70:=Proofs.Tryz.isAgg170
 z70:=Proofs.Tryz.sizeOf170
 v70:=Proofs.Tryz.zeroValue170
 t37:=by kernel_rfl
 a37:=Proofs.Tryz.isAgg30
 z37:=Proofs.Tryz.sizeOf30
 v37:=Proofs.Tryz.zeroValue30
 t75:=by kernel_rfl
 a75:=Proofs.Tryz.isAgg136
 z75:=Proofs.Tryz.sizeOf136
 v75:=Proofs.Tryz.zeroValue136
 t127:=by kernel_rfl
 a127:=Proofs.Tryz.isAgg252
 z127:=Proofs.Tryz.sizeOf252
 v127:=Proofs.Tryz.zeroValue252
 t164:=by kernel_rfl
 a164:=Proofs.Tryz.isAgg301
 z164:=Proofs.Tryz.sizeOf301
 v164:=Proofs.Tryz.zeroValue301
theorem Aj:Proofs.Builder.Extra Tryz.prog kJ where
 sizeBuilder:=by kernel_rfl
 liesBuilder:=by kernel_rfl
 t5:=by kernel_rfl
 a5:=Proofs.Tryz.isAgg5
 z5:=Proofs.Tryz.sizeOf5
 v5:=Proofs.Tryz.zeroValue5
 infoByte:=by kernel_rfl
 cellsByte:=by kernel_rfl
 sizeByte:=by kernel_rfl
 neB5:=by decide
theorem okE (l:List Orc) (m:List Sm):∀[U:Unk],U.K=(Env.of Tryz.prog).kinds→OK (Env.ofS Tryz.prog l m):=fun {U} h=>OK.of (U:=U) (P:=Tryz.prog) (Checked.mixed Tryz.checked) (by kernel_rfl) h
theorem w0 (G:Nat→D→D):Ad (Env.ofS Tryz.prog [] []) G:=Ad.none (U:=Aw)
def y1:Ab:=.cells 4 (nd (.func (.func 278) [(.ptr 44 0)] []) (nd (.func (.func 279) [(.ptr 44 0)] []) (lf (.func (.func 281) [(.ptr 44 0)] [])) .nil) (lf (.func (.func 280) [(.ptr 44 0)] [])))
def y2:T Ab:=lf y1
def y3:T Ab:=no y2 .nil
def y4:T Ab:=no .nil y3
def y5:T Ab:=no .nil y4
def y6:T Ab:=no .nil y5
def y7:T AV:=nd (.str 0 0) (lf (.int .i64 (.ofNat 3))) .nil
def y8:T AV:=nd (.int .i64 (.ofNat 0)) (lf (.int .i64 (.ofNat 9))) .nil
def y9:AV:=.str 416 26887877872370717628590333463849519926503264312258379940856421635744580367824221889179817294009630211432797437353707483025058929452278489868087650059092832354817368261544714385300335013591013866308391433740199927253365051263882943151356524458138388805058112474480351413566232195257811099896715668327051941038148333294995140874727318138398882760034743565036859432718734059979577822544027156949977536016364049463339817047282323501873606293163820234173848431719605017806305269152865293837898736932882554403361590967353421672556197806209672847532888591114541317994844526682664113411491011284097398438011815436313987057844298154227138480988875024642025398990748550908762126844680827003207618114001531926284816845581561610180253977900018258815109000244545678487062537441938024077312230741412667678059280174214633292376488353007522931779902533601444445411093754577616917260612600229433478782192676404901119438283657431858126635412007114229414769886882724917644640947614673679508015983881492240718016837284464
def y10:T Ab:=no .nil (no (lf (.cells 4 (nd y9 (nd (.int .i64 (.ofNat 47)) (lf (.int .i64 (.ofNat 14))) .nil) (lf (.int .i64 (.ofNat 3)))))) .nil)
def y11:T Ab:=no .nil (no (no .nil y10) .nil)
def y12:T Ab:=no (no .nil (no .nil (no (lf (.cells 4 (nd y9 (nd (.int .i64 (.ofNat 48)) (lf (.int .i64 (.ofNat 15))) .nil) (lf (.int .i64 (.ofNat 3)))))) .nil))) .nil
def y13:T Ab:=no .nil y12
def y14:T AV:=nd (.int .i64 (.ofNat 0)) (lf (.int .i64 (.ofNat 15))) .nil
def y15:T Ab:=no (no .nil (no .nil (no (lf (.cells 4 (nd y9 (nd (.int .i64 (.ofNat 49)) (lf (.int .i64 (.ofNat 16))) .nil) (lf (.int .i64 (.ofNat 3)))))) .nil))) .nil
def y16:T Ab:=no .nil y15
def y17:T Ab:=no (lf (.cells 4 (nd y9 (nd (.int .i64 (.ofNat 50)) (lf (.int .i64 (.ofNat 17))) .nil) (lf (.int .i64 (.ofNat 3)))))) .nil
def y18:T Ab:=no .nil (no (no .nil (no .nil y17)) .nil)
def y19:T AV:=nd (.int .i64 (.ofNat 0)) (lf (.int .i64 (.ofNat 17))) .nil
def y20:T Ab:=no (lf (.cells 4 (nd y9 (nd (.int .i64 (.ofNat 53)) (lf (.int .i64 (.ofNat 20))) .nil) (lf (.int .i64 (.ofNat 3)))))) .nil
def y21:T Ab:=no .nil (no (no .nil (no .nil y20)) .nil)
def y22:T Ab:=no (no .nil (no .nil (no (lf (.cells 4 (nd y9 (nd (.int .i64 (.ofNat 54)) (lf (.int .i64 (.ofNat 21))) .nil) (lf (.int .i64 (.ofNat 3)))))) .nil))) .nil
def y23:T Ab:=no .nil y22
def y24:T AV:=nd (.int .i64 (.ofNat 0)) (lf (.int .i64 (.ofNat 21))) .nil
def y25:T Ab:=no (no .nil (no .nil (no (lf (.cells 4 (nd y9 (nd (.int .i64 (.ofNat 57)) (lf (.int .i64 (.ofNat 24))) .nil) (lf (.int .i64 (.ofNat 3)))))) .nil))) .nil
def y26:T AV:=nd (.int .i64 (.ofNat 0)) (lf (.int .i64 (.ofNat 24))) .nil
def y27:T Ab:=no (no .nil (no .nil (no (lf (.cells 4 (nd y9 (nd (.int .i64 (.ofNat 58)) (lf (.int .i64 (.ofNat 25))) .nil) (lf (.int .i64 (.ofNat 3)))))) .nil))) .nil
def y28:T Ab:=no .nil y27
def y29:T Ab:=no (no .nil (no .nil (no (lf (.cells 4 (nd y9 (nd (.int .i64 (.ofNat 61)) (lf (.int .i64 (.ofNat 3))) .nil) (lf (.int .i64 (.ofNat 4)))))) .nil))) .nil
def y30:T Ab:=no .nil y29
def y31:T AV:=nd (.str 0 0) (lf (.int .i64 (.ofNat 4))) .nil
def y32:T AV:=nd (.int .i64 (.ofNat 0)) (lf (.int .i64 (.ofNat 3))) .nil
def y33:T Ab:=no (no .nil (no .nil (no (lf (.cells 4 (nd y9 (nd (.int .i64 (.ofNat 65)) (lf (.int .i64 (.ofNat 7))) .nil) (lf (.int .i64 (.ofNat 4)))))) .nil))) .nil
def y34:T AV:=nd (.int .i64 (.ofNat 0)) (lf (.int .i64 (.ofNat 7))) .nil
def y35:T Ab:=no (no .nil (no .nil (no (lf (.cells 4 (nd y9 (nd (.int .i64 (.ofNat 66)) (lf (.int .i64 (.ofNat 8))) .nil) (lf (.int .i64 (.ofNat 4)))))) .nil))) .nil
def y36:T Ab:=no .nil y35
def y37:T Ab:=no (no .nil (no .nil (no (lf (.cells 4 (nd y9 (nd (.int .i64 (.ofNat 67)) (lf (.int .i64 (.ofNat 9))) .nil) (lf (.int .i64 (.ofNat 4)))))) .nil))) .nil
def y38:T Ab:=no .nil y37
def y39:T Ab:=no (no .nil (no .nil (no (lf (.cells 4 (nd y9 (nd (.int .i64 (.ofNat 72)) (lf (.int .i64 (.ofNat 14))) .nil) (lf (.int .i64 (.ofNat 4)))))) .nil))) .nil
def y40:T Ab:=no .nil y39
def y41:T Ab:=no (lf (.cells 4 (nd y9 (nd (.int .i64 (.ofNat 73)) (lf (.int .i64 (.ofNat 15))) .nil) (lf (.int .i64 (.ofNat 4)))))) .nil
def y42:T Ab:=no .nil (no (no .nil (no .nil y41)) .nil)
def y43:T Ab:=no (lf (.cells 4 (nd y9 (nd (.int .i64 (.ofNat 74)) (lf (.int .i64 (.ofNat 16))) .nil) (lf (.int .i64 (.ofNat 4)))))) .nil
def y44:T Ab:=no .nil (no (no .nil (no .nil y43)) .nil)
def y45:T Ab:=no (no .nil (no .nil (no (lf (.cells 4 (nd y9 (nd (.int .i64 (.ofNat 75)) (lf (.int .i64 (.ofNat 17))) .nil) (lf (.int .i64 (.ofNat 4)))))) .nil))) .nil
def y46:T Ab:=no .nil y45
def y47:T Ab:=no (no .nil (no .nil (no (lf (.cells 4 (nd y9 (nd (.int .i64 (.ofNat 78)) (lf (.int .i64 (.ofNat 20))) .nil) (lf (.int .i64 (.ofNat 4)))))) .nil))) .nil
def y48:T Ab:=no .nil y47
def y49:T Ab:=no .nil (no (lf (.cells 4 (nd y9 (nd (.int .i64 (.ofNat 79)) (lf (.int .i64 (.ofNat 21))) .nil) (lf (.int .i64 (.ofNat 4)))))) .nil)
def y50:T Ab:=no .nil (no (no .nil y49) .nil)
def y51:T Ab:=no .nil (no (lf (.cells 4 (nd y9 (nd (.int .i64 (.ofNat 81)) (lf (.int .i64 (.ofNat 23))) .nil) (lf (.int .i64 (.ofNat 4)))))) .nil)
def y52:T Ab:=no .nil y51
def y53:T AV:=nd (.int .i64 (.ofNat 0)) (lf (.int .i64 (.ofNat 23))) .nil
def y54:T Ab:=no .nil (no .nil (no (lf (.cells 4 (nd y9 (nd (.int .i64 (.ofNat 82)) (lf (.int .i64 (.ofNat 24))) .nil) (lf (.int .i64 (.ofNat 4)))))) .nil))
def y55:T Ab:=no .nil (no y54 .nil)
def y56:T Ab:=lf (.cells 4 (nd y9 (nd (.int .i64 (.ofNat 83)) (lf (.int .i64 (.ofNat 1))) .nil) (lf (.int .i64 (.ofNat 5)))))
def y57:T Ab:=no .nil (no (no .nil (no .nil (no y56 .nil))) .nil)
def y58:T AV:=nd (.str 0 0) (lf (.int .i64 (.ofNat 5))) .nil
def y59:T AV:=nd (.int .i64 (.ofNat 0)) (lf (.int .i64 (.ofNat 1))) .nil
def y60:T Ab:=lf (.cells 4 (nd y9 (nd (.int .i64 (.ofNat 84)) (lf (.int .i64 (.ofNat 2))) .nil) (lf (.int .i64 (.ofNat 5)))))
def y61:T Ab:=no .nil (no (no .nil (no .nil (no y60 .nil))) .nil)
def y62:T Ab:=no .nil (no .nil (no (lf (.cells 4 (nd y9 (nd (.int .i64 (.ofNat 85)) (lf (.int .i64 (.ofNat 1))) .nil) (lf (.int .i64 (.ofNat 6)))))) .nil))
def y63:T Ab:=no .nil (no y62 .nil)
def y64:T AV:=nd (.str 0 0) (lf (.int .i64 (.ofNat 6))) .nil
def y65:T Ab:=no .nil (no .nil (no (lf (.cells 4 (nd y9 (nd (.int .i64 (.ofNat 92)) (lf (.int .i64 (.ofNat 8))) .nil) (lf (.int .i64 (.ofNat 6)))))) .nil))
def y66:T Ab:=no .nil (no y65 .nil)
def y67:T Ab:=no (no .nil (no .nil (no (lf (.cells 4 (nd y9 (nd (.int .i64 (.ofNat 93)) (lf (.int .i64 (.ofNat 9))) .nil) (lf (.int .i64 (.ofNat 6)))))) .nil))) .nil
def y68:T Ab:=no .nil y67
def y69:T Ab:=no (no .nil (no .nil (no (lf (.cells 4 (nd y9 (nd (.int .i64 (.ofNat 98)) (lf (.int .i64 (.ofNat 14))) .nil) (lf (.int .i64 (.ofNat 6)))))) .nil))) .nil
def y70:T Ab:=no .nil y69
def y71:Ab:=.cells 4 (nd y9 (nd (.int .i64 (.ofNat 99)) (lf (.int .i64 (.ofNat 15))) .nil) (lf (.int .i64 (.ofNat 6))))
def y72:T Ab:=no .nil (no (no .nil (no .nil (no (lf y71) .nil))) .nil)
def y73:Ab:=.cells 4 (nd y9 (nd (.int .i64 (.ofNat 100)) (lf (.int .i64 (.ofNat 16))) .nil) (lf (.int .i64 (.ofNat 6))))
def y74:T Ab:=no .nil (no (no .nil (no .nil (no (lf y73) .nil))) .nil)
def y75:T Ab:=no .nil (no .nil (no (lf (.cells 4 (nd y9 (nd (.int .i64 (.ofNat 103)) (lf (.int .i64 (.ofNat 3))) .nil) (lf (.int .i64 (.ofNat 7)))))) .nil))
def y76:T Ab:=no .nil (no y75 .nil)
def y77:T AV:=nd (.str 0 0) (lf (.int .i64 (.ofNat 7))) .nil
def y78:T Ab:=no .nil (no .nil (no (lf (.cells 4 (nd y9 (nd (.int .i64 (.ofNat 109)) (lf (.int .i64 (.ofNat 9))) .nil) (lf (.int .i64 (.ofNat 7)))))) .nil))
def y79:T Ab:=no .nil (no .nil (no (lf (.cells 4 (nd y9 (nd (.int .i64 (.ofNat 110)) (lf (.int .i64 (.ofNat 10))) .nil) (lf (.int .i64 (.ofNat 7)))))) .nil))
def y80:T Ab:=no .nil (no y79 .nil)
def y81:T Ab:=lf (.cells 4 (nd y9 (nd (.int .i64 (.ofNat 111)) (lf (.int .i64 (.ofNat 11))) .nil) (lf (.int .i64 (.ofNat 7)))))
def y82:T Ab:=no .nil (no (no .nil (no .nil (no y81 .nil))) .nil)
def y83:T AV:=nd (.int .i64 (.ofNat 0)) (lf (.int .i64 (.ofNat 11))) .nil
def y84:T Ab:=lf (.cells 4 (nd y9 (nd (.int .i64 (.ofNat 115)) (lf (.int .i64 (.ofNat 15))) .nil) (lf (.int .i64 (.ofNat 7)))))
def y85:T Ab:=no .nil (no (no .nil (no .nil (no y84 .nil))) .nil)
def y86:T Ab:=no (no .nil (no .nil (no (lf (.cells 4 (nd y9 (nd (.int .i64 (.ofNat 116)) (lf (.int .i64 (.ofNat 16))) .nil) (lf (.int .i64 (.ofNat 7)))))) .nil))) .nil
def y87:T Ab:=no .nil y86
def y88:T AV:=nd (.int .i64 (.ofNat 0)) (lf (.int .i64 (.ofNat 16))) .nil
def y89:T AV:=nd (.int .i64 (.ofNat 16)) (lf (.int .i64 (.ofNat 16))) .nil
def y90:T Ab:=no (no .nil (no .nil (no (lf (.cells 4 (nd y9 (nd (.int .i64 (.ofNat 118)) (lf (.int .i64 (.ofNat 18))) .nil) (lf (.int .i64 (.ofNat 7)))))) .nil))) .nil
def y91:T Ab:=no .nil y90
def y92:T Ab:=no .nil (no (lf (.cells 4 (nd y9 (nd (.int .i64 (.ofNat 119)) (lf (.int .i64 (.ofNat 19))) .nil) (lf (.int .i64 (.ofNat 7)))))) .nil)
def y93:T Ab:=no .nil (no (no .nil y92) .nil)
def y94:T AV:=nd (.int .i64 (.ofNat 0)) (lf (.int .i64 (.ofNat 19))) .nil
def y95:T Ab:=no .nil (no (lf (.cells 4 (nd y9 (nd (.int .i64 (.ofNat 120)) (lf (.int .i64 (.ofNat 20))) .nil) (lf (.int .i64 (.ofNat 7)))))) .nil)
def y96:T Ab:=no .nil y95
def y97:T AV:=nd (.int .i64 (.ofNat 0)) (lf (.int .i64 (.ofNat 20))) .nil
def y98:T Ab:=no .nil (no .nil (no (lf (.cells 4 (nd y9 (nd (.int .i64 (.ofNat 122)) (lf (.int .i64 (.ofNat 22))) .nil) (lf (.int .i64 (.ofNat 7)))))) .nil))
def y99:T Ab:=no y98 .nil
def OU:T AV:=nd (.int .i64 (.ofNat 0)) (lf (.int .i64 (.ofNat 22))) .nil
def iz:T AV:=nd (.int .i64 (.ofNat 65535)) (lf (.int .i64 (.ofNat 22))) .nil
def dF:T Ab:=no (no .nil (no .nil (no (lf (.cells 4 (nd y9 (nd (.int .i64 (.ofNat 127)) (lf (.int .i64 (.ofNat 27))) .nil) (lf (.int .i64 (.ofNat 7)))))) .nil))) .nil
def QW:T AV:=nd (.int .i64 (.ofNat 0)) (lf (.int .i64 (.ofNat 27))) .nil
def ve:T Ab:=no (no .nil (no .nil (no (lf (.cells 4 (nd y9 (nd (.int .i64 (.ofNat 128)) (lf (.int .i64 (.ofNat 28))) .nil) (lf (.int .i64 (.ofNat 7)))))) .nil))) .nil
def qD:T Ab:=no .nil ve
def sl:T Ab:=no (no .nil (no .nil (no (lf (.cells 4 (nd y9 (nd (.int .i64 (.ofNat 131)) (lf (.int .i64 (.ofNat 3))) .nil) (lf (.int .i64 (.ofNat 8)))))) .nil))) .nil
def uw:T Ab:=no .nil sl
def FX:T AV:=nd (.str 0 0) (lf (.int .i64 (.ofNat 8))) .nil
def WO:T Ab:=no (no .nil (no .nil (no (lf (.cells 4 (nd y9 (nd (.int .i64 (.ofNat 135)) (lf (.int .i64 (.ofNat 7))) .nil) (lf (.int .i64 (.ofNat 8)))))) .nil))) .nil
def sa:T Ab:=no (no .nil (no .nil (no (lf (.cells 4 (nd y9 (nd (.int .i64 (.ofNat 136)) (lf (.int .i64 (.ofNat 8))) .nil) (lf (.int .i64 (.ofNat 8)))))) .nil))) .nil
def mV:T Ab:=no .nil sa
def ut:T Ab:=no (no .nil (no .nil (no (lf (.cells 4 (nd y9 (nd (.int .i64 (.ofNat 137)) (lf (.int .i64 (.ofNat 9))) .nil) (lf (.int .i64 (.ofNat 8)))))) .nil))) .nil
def oh:T Ab:=no .nil ut
def gt:T Ab:=no (no .nil (no .nil (no (lf (.cells 4 (nd y9 (nd (.int .i64 (.ofNat 141)) (lf (.int .i64 (.ofNat 13))) .nil) (lf (.int .i64 (.ofNat 8)))))) .nil))) .nil
def yR:T Ab:=no .nil gt
def nC:T Ab:=no .nil (no .nil (no (lf (.cells 4 (nd y9 (nd (.int .i64 (.ofNat 142)) (lf (.int .i64 (.ofNat 14))) .nil) (lf (.int .i64 (.ofNat 8)))))) .nil))
def kZ:T Ab:=no .nil (no nC .nil)
def gv:T AV:=nd (.int .i64 (.ofNat 0)) (lf (.int .i64 (.ofNat 14))) .nil
def nK:T Ab:=no .nil (no .nil (no (lf (.cells 4 (nd y9 (nd (.int .i64 (.ofNat 144)) (lf (.int .i64 (.ofNat 16))) .nil) (lf (.int .i64 (.ofNat 8)))))) .nil))
def j6:T AV:=nd (.int .i64 (.ofNat 16)) (lf (.int .i64 (.ofNat 14))) .nil
def po:T Ab:=no .nil (no nK .nil)
def nf:T Ab:=no (no .nil (no .nil (no (lf (.cells 4 (nd y9 (nd (.int .i64 (.ofNat 145)) (lf (.int .i64 (.ofNat 17))) .nil) (lf (.int .i64 (.ofNat 8)))))) .nil))) .nil
def mg:T Ab:=no .nil nf
def bE:T Ab:=no (no .nil (no .nil (no (lf (.cells 4 (nd y9 (nd (.int .i64 (.ofNat 146)) (lf (.int .i64 (.ofNat 18))) .nil) (lf (.int .i64 (.ofNat 8)))))) .nil))) .nil
def Tg:T AV:=nd (.int .i64 (.ofNat 0)) (lf (.int .i64 (.ofNat 18))) .nil
def tG:T Ab:=no .nil (no (lf (.cells 4 (nd y9 (nd (.int .i64 (.ofNat 148)) (lf (.int .i64 (.ofNat 20))) .nil) (lf (.int .i64 (.ofNat 8)))))) .nil)
def iA:T Ab:=no (no .nil tG) .nil
def va:T Ab:=no .nil (no (lf (.cells 4 (nd y9 (nd (.int .i64 (.ofNat 151)) (lf (.int .i64 (.ofNat 23))) .nil) (lf (.int .i64 (.ofNat 8)))))) .nil)
def mn:T Ab:=no .nil va
def jK:T Ab:=no .nil (no .nil (no (lf (.cells 4 (nd y9 (nd (.int .i64 (.ofNat 152)) (lf (.int .i64 (.ofNat 24))) .nil) (lf (.int .i64 (.ofNat 8)))))) .nil))
def rU:T Ab:=no .nil (no jK .nil)
def uH:Ab:=.cells 4 (nd y9 (nd (.int .i64 (.ofNat 155)) (lf (.int .i64 (.ofNat 3))) .nil) (lf (.int .i64 (.ofNat 9))))
def uY:T Ab:=no .nil (no (no .nil (no .nil (no (lf uH) .nil))) .nil)
def GS:T AV:=nd (.str 0 0) (lf (.int .i64 (.ofNat 9))) .nil
def wW:Ab:=.cells 4 (nd y9 (nd (.int .i64 (.ofNat 159)) (lf (.int .i64 (.ofNat 7))) .nil) (lf (.int .i64 (.ofNat 9))))
def jT:T Ab:=no .nil (no (lf wW) .nil)
def uO:T Ab:=no .nil (no (lf (.cells 4 (nd y9 (nd (.int .i64 (.ofNat 160)) (lf (.int .i64 (.ofNat 8))) .nil) (lf (.int .i64 (.ofNat 9)))))) .nil)
def ko:T Ab:=no .nil (no (no .nil uO) .nil)
def rI:T Ab:=no .nil (no .nil (no (lf (.cells 4 (nd y9 (nd (.int .i64 (.ofNat 161)) (lf (.int .i64 (.ofNat 9))) .nil) (lf (.int .i64 (.ofNat 9)))))) .nil))
def x8:T Ab:=no .nil (no rI .nil)
def sr:T Ab:=no .nil (no .nil (no (lf (.cells 4 (nd y9 (nd (.int .i64 (.ofNat 166)) (lf (.int .i64 (.ofNat 14))) .nil) (lf (.int .i64 (.ofNat 9)))))) .nil))
def gJ:T Ab:=no .nil (no sr .nil)
def yj:T Ab:=no (no .nil (no .nil (no (lf (.cells 4 (nd y9 (nd (.int .i64 (.ofNat 167)) (lf (.int .i64 (.ofNat 15))) .nil) (lf (.int .i64 (.ofNat 9)))))) .nil))) .nil
def lc:T Ab:=no .nil yj
def we:T Ab:=no .nil (no (lf (.cells 4 (nd y9 (nd (.int .i64 (.ofNat 168)) (lf (.int .i64 (.ofNat 16))) .nil) (lf (.int .i64 (.ofNat 9)))))) .nil)
def oo:T Ab:=no (no .nil we) .nil
def sU:T Ab:=no (lf (.cells 4 (nd y9 (nd (.int .i64 (.ofNat 172)) (lf (.int .i64 (.ofNat 20))) .nil) (lf (.int .i64 (.ofNat 9)))))) .nil
def kg:T Ab:=no .nil sU
def uS:T Ab:=no (lf (.cells 4 (nd y9 (nd (.int .i64 (.ofNat 173)) (lf (.int .i64 (.ofNat 21))) .nil) (lf (.int .i64 (.ofNat 9)))))) .nil
def j5:T Ab:=no (no .nil (no .nil uS)) .nil
def sL:T Ab:=no (no .nil (no .nil (no (lf (.cells 4 (nd y9 (nd (.int .i64 (.ofNat 174)) (lf (.int .i64 (.ofNat 22))) .nil) (lf (.int .i64 (.ofNat 9)))))) .nil))) .nil
def jA:T Ab:=no .nil sL
def vV:T Ab:=no (no .nil (no .nil (no (lf (.cells 4 (nd y9 (nd (.int .i64 (.ofNat 175)) (lf (.int .i64 (.ofNat 1))) .nil) (lf (.int .i64 (.ofNat 10)))))) .nil))) .nil
def ny:T Ab:=no .nil vV
def wY:T AV:=nd (.str 0 0) (lf (.int .i64 (.ofNat 10))) .nil
def xR:T Ab:=no (no .nil (no .nil (no (lf (.cells 4 (nd y9 (nd (.int .i64 (.ofNat 176)) (lf (.int .i64 (.ofNat 2))) .nil) (lf (.int .i64 (.ofNat 10)))))) .nil))) .nil
def iR:T Ab:=no .nil xR
def lD:T Ab:=no (no .nil (no .nil (no (lf (.cells 4 (nd y9 (nd (.int .i64 (.ofNat 177)) (lf (.int .i64 (.ofNat 1))) .nil) (lf (.int .i64 (.ofNat 11)))))) .nil))) .nil
def lM:T Ab:=no .nil lD
def RC:T AV:=nd (.str 0 0) (lf (.int .i64 (.ofNat 11))) .nil
def tK:T Ab:=no (no .nil (no .nil (no (lf (.cells 4 (nd y9 (nd (.int .i64 (.ofNat 184)) (lf (.int .i64 (.ofNat 8))) .nil) (lf (.int .i64 (.ofNat 11)))))) .nil))) .nil
def mO:T Ab:=no .nil tK
def uv:T Ab:=no .nil (no .nil (no (lf (.cells 4 (nd y9 (nd (.int .i64 (.ofNat 185)) (lf (.int .i64 (.ofNat 9))) .nil) (lf (.int .i64 (.ofNat 11)))))) .nil))
def j9:T Ab:=no .nil (no uv .nil)
def ma:T Ab:=no .nil (no .nil (no (lf (.cells 4 (nd y9 (nd (.int .i64 (.ofNat 188)) (lf (.int .i64 (.ofNat 12))) .nil) (lf (.int .i64 (.ofNat 11)))))) .nil))
def gk:T Ab:=no .nil (no ma .nil)
def rh:T Ab:=no (no .nil (no .nil (no (lf (.cells 4 (nd y9 (nd (.int .i64 (.ofNat 189)) (lf (.int .i64 (.ofNat 13))) .nil) (lf (.int .i64 (.ofNat 11)))))) .nil))) .nil
def qP:T Ab:=no .nil rh
def VP:T AV:=nd (.int .i64 (.ofNat 0)) (lf (.int .i64 (.ofNat 13))) .nil
def nL:T Ab:=no (no .nil (no .nil (no (lf (.cells 4 (nd y9 (nd (.int .i64 (.ofNat 190)) (lf (.int .i64 (.ofNat 14))) .nil) (lf (.int .i64 (.ofNat 11)))))) .nil))) .nil
def vA:T Ab:=no .nil nL
def x6:T Ab:=no (no .nil (no .nil (no (lf (.cells 4 (nd y9 (nd (.int .i64 (.ofNat 193)) (lf (.int .i64 (.ofNat 3))) .nil) (lf (.int .i64 (.ofNat 12)))))) .nil))) .nil
def l6:T Ab:=no .nil x6
def FW:T AV:=nd (.str 0 0) (lf (.int .i64 (.ofNat 12))) .nil
def cS:T Ab:=no (no .nil (no .nil (no (lf (.cells 4 (nd y9 (nd (.int .i64 (.ofNat 199)) (lf (.int .i64 (.ofNat 9))) .nil) (lf (.int .i64 (.ofNat 12)))))) .nil))) .nil
def oK:T Ab:=no (no .nil (no .nil (no (lf (.cells 4 (nd y9 (nd (.int .i64 (.ofNat 200)) (lf (.int .i64 (.ofNat 10))) .nil) (lf (.int .i64 (.ofNat 12)))))) .nil))) .nil
def xW:T Ab:=no .nil oK
def jO:T Ab:=no (no .nil (no .nil (no (lf (.cells 4 (nd y9 (nd (.int .i64 (.ofNat 201)) (lf (.int .i64 (.ofNat 11))) .nil) (lf (.int .i64 (.ofNat 12)))))) .nil))) .nil
def pz:T Ab:=no .nil jO
def lZ:T Ab:=no (no .nil (no .nil (no (lf (.cells 4 (nd y9 (nd (.int .i64 (.ofNat 205)) (lf (.int .i64 (.ofNat 15))) .nil) (lf (.int .i64 (.ofNat 12)))))) .nil))) .nil
def jQ:T Ab:=no .nil lZ
def vg:T Ab:=no (lf (.cells 4 (nd y9 (nd (.int .i64 (.ofNat 206)) (lf (.int .i64 (.ofNat 16))) .nil) (lf (.int .i64 (.ofNat 12)))))) .nil
def ub:T Ab:=no .nil (no (no .nil (no .nil vg)) .nil)
def sB:T Ab:=no (lf (.cells 4 (nd y9 (nd (.int .i64 (.ofNat 208)) (lf (.int .i64 (.ofNat 18))) .nil) (lf (.int .i64 (.ofNat 12)))))) .nil
def lJ:T Ab:=no .nil (no (no .nil (no .nil sB)) .nil)
def oZ:T Ab:=no (no .nil (no .nil (no (lf (.cells 4 (nd y9 (nd (.int .i64 (.ofNat 209)) (lf (.int .i64 (.ofNat 19))) .nil) (lf (.int .i64 (.ofNat 12)))))) .nil))) .nil
def mU:T Ab:=no .nil oZ
def cD:T Ab:=no (no .nil (no .nil (no (lf (.cells 4 (nd y9 (nd (.int .i64 (.ofNat 210)) (lf (.int .i64 (.ofNat 20))) .nil) (lf (.int .i64 (.ofNat 12)))))) .nil))) .nil
def uD:T Ab:=no .nil (no .nil (no (lf (.cells 4 (nd y9 (nd (.int .i64 (.ofNat 212)) (lf (.int .i64 (.ofNat 22))) .nil) (lf (.int .i64 (.ofNat 12)))))) .nil))
def pI:T Ab:=no uD .nil
def iT:Ab:=.cells 4 (nd y9 (nd (.int .i64 (.ofNat 217)) (lf (.int .i64 (.ofNat 27))) .nil) (lf (.int .i64 (.ofNat 12))))
def vu:T Ab:=no .nil (no .nil (no (lf iT) .nil))
def gF:Ab:=.cells 4 (nd y9 (nd (.int .i64 (.ofNat 218)) (lf (.int .i64 (.ofNat 28))) .nil) (lf (.int .i64 (.ofNat 12))))
def tg:T Ab:=no .nil (no (no .nil (no .nil (no (lf gF) .nil))) .nil)
def nu:T Ab:=no .nil (no .nil (no (lf (.cells 4 (nd y9 (nd (.int .i64 (.ofNat 219)) (lf (.int .i64 (.ofNat 1))) .nil) (lf (.int .i64 (.ofNat 13)))))) .nil))
def jn:T Ab:=no .nil (no nu .nil)
def na:T AV:=nd (.str 0 0) (lf (.int .i64 (.ofNat 13))) .nil
def mP:T Ab:=no .nil (no .nil (no (lf (.cells 4 (nd y9 (nd (.int .i64 (.ofNat 220)) (lf (.int .i64 (.ofNat 2))) .nil) (lf (.int .i64 (.ofNat 13)))))) .nil))
def kA:T Ab:=no .nil (no mP .nil)
def mF:T Ab:=no .nil (no (lf (.cells 4 (nd y9 (nd (.int .i64 (.ofNat 221)) (lf (.int .i64 (.ofNat 1))) .nil) (lf (.int .i64 (.ofNat 14)))))) .nil)
def yS:T Ab:=no .nil (no (no .nil mF) .nil)
def R8:T AV:=nd (.str 0 0) (lf (.int .i64 (.ofNat 14))) .nil
def n9:T Ab:=no .nil (no (lf (.cells 4 (nd y9 (nd (.int .i64 (.ofNat 228)) (lf (.int .i64 (.ofNat 8))) .nil) (lf (.int .i64 (.ofNat 14)))))) .nil)
def fL:T Ab:=no .nil (no (no .nil n9) .nil)
def ga:T Ab:=no (no .nil (no .nil (no (lf (.cells 4 (nd y9 (nd (.int .i64 (.ofNat 229)) (lf (.int .i64 (.ofNat 9))) .nil) (lf (.int .i64 (.ofNat 14)))))) .nil))) .nil
def g7:T Ab:=no .nil ga
def sg:T Ab:=no (no .nil (no .nil (no (lf (.cells 4 (nd y9 (nd (.int .i64 (.ofNat 234)) (lf (.int .i64 (.ofNat 14))) .nil) (lf (.int .i64 (.ofNat 14)))))) .nil))) .nil
def nP:T Ab:=no .nil sg
def jB:T Ab:=no .nil (no .nil (no (lf (.cells 4 (nd y9 (nd (.int .i64 (.ofNat 235)) (lf (.int .i64 (.ofNat 15))) .nil) (lf (.int .i64 (.ofNat 14)))))) .nil))
def mL:T Ab:=no .nil (no jB .nil)
def wb:T Ab:=no .nil (no .nil (no (lf (.cells 4 (nd y9 (nd (.int .i64 (.ofNat 236)) (lf (.int .i64 (.ofNat 16))) .nil) (lf (.int .i64 (.ofNat 14)))))) .nil))
def pd:T Ab:=no .nil (no wb .nil)
def tH:T Ab:=no .nil (no (lf (.cells 4 (nd y9 (nd (.int .i64 (.ofNat 239)) (lf (.int .i64 (.ofNat 3))) .nil) (lf (.int .i64 (.ofNat 15)))))) .nil)
def gB:T Ab:=no .nil (no (no .nil tH) .nil)
def F2:T AV:=nd (.str 0 0) (lf (.int .i64 (.ofNat 15))) .nil
def yq:Ab:=.cells 4 (nd y9 (nd (.int .i64 (.ofNat 243)) (lf (.int .i64 (.ofNat 7))) .nil) (lf (.int .i64 (.ofNat 15))))
def sj:T Ab:=no .nil (no (lf yq) .nil)
def gT:Ab:=.cells 4 (nd y9 (nd (.int .i64 (.ofNat 244)) (lf (.int .i64 (.ofNat 8))) .nil) (lf (.int .i64 (.ofNat 15))))
def iC:T Ab:=no .nil (no (no .nil (no .nil (no (lf gT) .nil))) .nil)
def me:T Ab:=no .nil (no .nil (no (lf (.cells 4 (nd y9 (nd (.int .i64 (.ofNat 245)) (lf (.int .i64 (.ofNat 9))) .nil) (lf (.int .i64 (.ofNat 15)))))) .nil))
def qY:T Ab:=no .nil (no me .nil)
def fO:T Ab:=no .nil (no .nil (no (lf (.cells 4 (nd y9 (nd (.int .i64 (.ofNat 249)) (lf (.int .i64 (.ofNat 13))) .nil) (lf (.int .i64 (.ofNat 15)))))) .nil))
def xo:T Ab:=no .nil (no fO .nil)
def nV:T Ab:=no (no .nil (no .nil (no (lf (.cells 4 (nd y9 (nd (.int .i64 (.ofNat 250)) (lf (.int .i64 (.ofNat 14))) .nil) (lf (.int .i64 (.ofNat 15)))))) .nil))) .nil
def tp:T Ab:=no .nil nV
def ka:T Ab:=no (no .nil (no .nil (no (lf (.cells 4 (nd y9 (nd (.int .i64 (.ofNat 252)) (lf (.int .i64 (.ofNat 16))) .nil) (lf (.int .i64 (.ofNat 15)))))) .nil))) .nil
def vH:T Ab:=no .nil ka
def lS:T Ab:=no .nil (no .nil (no (lf (.cells 4 (nd y9 (nd (.int .i64 (.ofNat 253)) (lf (.int .i64 (.ofNat 17))) .nil) (lf (.int .i64 (.ofNat 15)))))) .nil))
def tt:T Ab:=no .nil (no lS .nil)
def pM:T Ab:=no (lf (.cells 4 (nd y9 (nd (.int .i64 (.ofNat 254)) (lf (.int .i64 (.ofNat 18))) .nil) (lf (.int .i64 (.ofNat 15)))))) .nil
def km:T Ab:=no .nil (no .nil pM)
def vk:T Ab:=no (lf (.cells 4 (nd y9 (nd (.int .i64 (.ofNat 256)) (lf (.int .i64 (.ofNat 20))) .nil) (lf (.int .i64 (.ofNat 15)))))) .nil
def jL:T Ab:=no (no .nil (no .nil vk)) .nil
def oz:T AV:=nd (.int .i64 (.ofNat 8)) (lf (.int .i64 (.ofNat 20))) .nil
def ei:T Ab:=no (no .nil (no .nil (no (lf (.cells 4 (nd y9 (nd (.int .i64 (.ofNat 257)) (lf (.int .i64 (.ofNat 21))) .nil) (lf (.int .i64 (.ofNat 15)))))) .nil))) .nil
def yQ:T Ab:=no (no .nil (no .nil (no (lf (.cells 4 (nd y9 (nd (.int .i64 (.ofNat 258)) (lf (.int .i64 (.ofNat 22))) .nil) (lf (.int .i64 (.ofNat 15)))))) .nil))) .nil
def ur:T Ab:=no .nil yQ
def jy:T Ab:=no (no .nil (no .nil (no (lf (.cells 4 (nd y9 (nd (.int .i64 (.ofNat 261)) (lf (.int .i64 (.ofNat 3))) .nil) (lf (.int .i64 (.ofNat 16)))))) .nil))) .nil
def vJ:T Ab:=no .nil jy
def Hv:T AV:=nd (.str 0 0) (lf (.int .i64 (.ofNat 16))) .nil
def cU:T Ab:=no (no .nil (no .nil (no (lf (.cells 4 (nd y9 (nd (.int .i64 (.ofNat 267)) (lf (.int .i64 (.ofNat 9))) .nil) (lf (.int .i64 (.ofNat 16)))))) .nil))) .nil
def n6:T Ab:=no (no .nil (no .nil (no (lf (.cells 4 (nd y9 (nd (.int .i64 (.ofNat 268)) (lf (.int .i64 (.ofNat 10))) .nil) (lf (.int .i64 (.ofNat 16)))))) .nil))) .nil
def oi:T Ab:=no .nil n6
def tY:T Ab:=no (no .nil (no .nil (no (lf (.cells 4 (nd y9 (nd (.int .i64 (.ofNat 269)) (lf (.int .i64 (.ofNat 11))) .nil) (lf (.int .i64 (.ofNat 16)))))) .nil))) .nil
def yC:T Ab:=no .nil tY
def xu:T Ab:=no (no .nil (no .nil (no (lf (.cells 4 (nd y9 (nd (.int .i64 (.ofNat 274)) (lf (.int .i64 (.ofNat 16))) .nil) (lf (.int .i64 (.ofNat 16)))))) .nil))) .nil
def uW:T Ab:=no .nil xu
def jk:T Ab:=no (lf (.cells 4 (nd y9 (nd (.int .i64 (.ofNat 275)) (lf (.int .i64 (.ofNat 17))) .nil) (lf (.int .i64 (.ofNat 16)))))) .nil
def tT:T Ab:=no .nil (no (no .nil (no .nil jk)) .nil)
def hY:T Ab:=no (lf (.cells 4 (nd y9 (nd (.int .i64 (.ofNat 276)) (lf (.int .i64 (.ofNat 18))) .nil) (lf (.int .i64 (.ofNat 16)))))) .nil
def tF:T Ab:=no .nil (no (no .nil (no .nil hY)) .nil)
def pm:T Ab:=no (no .nil (no .nil (no (lf (.cells 4 (nd y9 (nd (.int .i64 (.ofNat 277)) (lf (.int .i64 (.ofNat 19))) .nil) (lf (.int .i64 (.ofNat 16)))))) .nil))) .nil
def jU:T Ab:=no .nil pm
def yo:T Ab:=no (no .nil (no .nil (no (lf (.cells 4 (nd y9 (nd (.int .i64 (.ofNat 280)) (lf (.int .i64 (.ofNat 22))) .nil) (lf (.int .i64 (.ofNat 16)))))) .nil))) .nil
def kk:T Ab:=no .nil yo
def gR:T Ab:=no .nil (no (lf (.cells 4 (nd y9 (nd (.int .i64 (.ofNat 281)) (lf (.int .i64 (.ofNat 23))) .nil) (lf (.int .i64 (.ofNat 16)))))) .nil)
def rn:T Ab:=no .nil (no (no .nil gR) .nil)
def jz:T Ab:=no .nil (no (lf (.cells 4 (nd y9 (nd (.int .i64 (.ofNat 284)) (lf (.int .i64 (.ofNat 26))) .nil) (lf (.int .i64 (.ofNat 16)))))) .nil)
def xe:T Ab:=no .nil jz
def kc:T AV:=nd (.int .i64 (.ofNat 0)) (lf (.int .i64 (.ofNat 26))) .nil
def sJ:T Ab:=no .nil (no .nil (no (lf (.cells 4 (nd y9 (nd (.int .i64 (.ofNat 285)) (lf (.int .i64 (.ofNat 27))) .nil) (lf (.int .i64 (.ofNat 16)))))) .nil))
def wE:T Ab:=no .nil (no sJ .nil)
def oN:T Ab:=lf (.cells 4 (nd y9 (nd (.int .i64 (.ofNat 286)) (lf (.int .i64 (.ofNat 1))) .nil) (lf (.int .i64 (.ofNat 17)))))
def xX:T Ab:=no .nil (no (no .nil (no .nil (no oN .nil))) .nil)
def fV:T AV:=nd (.str 0 0) (lf (.int .i64 (.ofNat 17))) .nil
def xd:T Ab:=lf (.cells 4 (nd y9 (nd (.int .i64 (.ofNat 287)) (lf (.int .i64 (.ofNat 2))) .nil) (lf (.int .i64 (.ofNat 17)))))
def vK:T Ab:=no .nil (no (no .nil (no .nil (no xd .nil))) .nil)
def rP:T Ab:=no .nil (no .nil (no (lf (.cells 4 (nd y9 (nd (.int .i64 (.ofNat 288)) (lf (.int .i64 (.ofNat 1))) .nil) (lf (.int .i64 (.ofNat 18)))))) .nil))
def mS:T Ab:=no .nil (no rP .nil)
def Q5:T AV:=nd (.str 0 0) (lf (.int .i64 (.ofNat 18))) .nil
def wd:T Ab:=no .nil (no .nil (no (lf (.cells 4 (nd y9 (nd (.int .i64 (.ofNat 295)) (lf (.int .i64 (.ofNat 8))) .nil) (lf (.int .i64 (.ofNat 18)))))) .nil))
def nW:T Ab:=no .nil (no wd .nil)
def fT:T Ab:=no (no .nil (no .nil (no (lf (.cells 4 (nd y9 (nd (.int .i64 (.ofNat 296)) (lf (.int .i64 (.ofNat 9))) .nil) (lf (.int .i64 (.ofNat 18)))))) .nil))) .nil
def sk:T Ab:=no .nil fT
def gy:T Ab:=no (no .nil (no .nil (no (lf (.cells 4 (nd y9 (nd (.int .i64 (.ofNat 302)) (lf (.int .i64 (.ofNat 15))) .nil) (lf (.int .i64 (.ofNat 18)))))) .nil))) .nil
def gP:T Ab:=no .nil gy
def kB:Ab:=.cells 4 (nd y9 (nd (.int .i64 (.ofNat 303)) (lf (.int .i64 (.ofNat 16))) .nil) (lf (.int .i64 (.ofNat 18))))
def oT:T Ab:=no .nil (no (no .nil (no .nil (no (lf kB) .nil))) .nil)
def qF:Ab:=.cells 4 (nd y9 (nd (.int .i64 (.ofNat 304)) (lf (.int .i64 (.ofNat 17))) .nil) (lf (.int .i64 (.ofNat 18))))
def oX:T Ab:=no .nil (no (no .nil (no .nil (no (lf qF) .nil))) .nil)
def uR:T Ab:=no .nil (no .nil (no (lf (.cells 4 (nd y9 (nd (.int .i64 (.ofNat 307)) (lf (.int .i64 (.ofNat 3))) .nil) (lf (.int .i64 (.ofNat 19)))))) .nil))
def gx:T Ab:=no .nil (no uR .nil)
def F0:T AV:=nd (.str 0 0) (lf (.int .i64 (.ofNat 19))) .nil
def YI:T Ab:=no .nil (no .nil (no (lf (.cells 4 (nd y9 (nd (.int .i64 (.ofNat 309)) (lf (.int .i64 (.ofNat 5))) .nil) (lf (.int .i64 (.ofNat 19)))))) .nil))
def f7:T AV:=nd (.int .i64 (.ofNat 0)) (lf (.int .i64 (.ofNat 5))) .nil
def lH:T Ab:=no .nil (no .nil (no (lf (.cells 4 (nd y9 (nd (.int .i64 (.ofNat 310)) (lf (.int .i64 (.ofNat 6))) .nil) (lf (.int .i64 (.ofNat 19)))))) .nil))
def kV:T Ab:=no .nil (no lH .nil)
def wO:T Ab:=lf (.cells 4 (nd y9 (nd (.int .i64 (.ofNat 311)) (lf (.int .i64 (.ofNat 7))) .nil) (lf (.int .i64 (.ofNat 19)))))
def sZ:T Ab:=no .nil (no (no .nil (no .nil (no wO .nil))) .nil)
def pD:T Ab:=lf (.cells 4 (nd y9 (nd (.int .i64 (.ofNat 315)) (lf (.int .i64 (.ofNat 11))) .nil) (lf (.int .i64 (.ofNat 19)))))
def xw:T Ab:=no .nil (no (no .nil (no .nil (no pD .nil))) .nil)
def gD:T Ab:=no (no .nil (no .nil (no (lf (.cells 4 (nd y9 (nd (.int .i64 (.ofNat 316)) (lf (.int .i64 (.ofNat 12))) .nil) (lf (.int .i64 (.ofNat 19)))))) .nil))) .nil
def iq:T Ab:=no .nil gD
def pJ:T AV:=nd (.int .i64 (.ofNat 0)) (lf (.int .i64 (.ofNat 12))) .nil
def wX:T Ab:=no (no .nil (no .nil (no (lf (.cells 4 (nd y9 (nd (.int .i64 (.ofNat 318)) (lf (.int .i64 (.ofNat 14))) .nil) (lf (.int .i64 (.ofNat 19)))))) .nil))) .nil
def xJ:T Ab:=no .nil wX
def tW:T Ab:=no .nil (no (lf (.cells 4 (nd y9 (nd (.int .i64 (.ofNat 319)) (lf (.int .i64 (.ofNat 15))) .nil) (lf (.int .i64 (.ofNat 19)))))) .nil)
def wy:T Ab:=no .nil (no (no .nil tW) .nil)
def yB:T Ab:=no .nil (no (lf (.cells 4 (nd y9 (nd (.int .i64 (.ofNat 320)) (lf (.int .i64 (.ofNat 16))) .nil) (lf (.int .i64 (.ofNat 19)))))) .nil)
def jS:T Ab:=no .nil yB
def vP:T Ab:=no .nil (no .nil (no (lf (.cells 4 (nd y9 (nd (.int .i64 (.ofNat 322)) (lf (.int .i64 (.ofNat 18))) .nil) (lf (.int .i64 (.ofNat 19)))))) .nil))
def uf:T Ab:=no vP .nil
def XO:T Ab:=no (no .nil (no .nil (no (lf (.cells 4 (nd y9 (nd (.int .i64 (.ofNat 323)) (lf (.int .i64 (.ofNat 19))) .nil) (lf (.int .i64 (.ofNat 19)))))) .nil))) .nil
def xN:T Ab:=no (no .nil (no .nil (no (lf (.cells 4 (nd y9 (nd (.int .i64 (.ofNat 324)) (lf (.int .i64 (.ofNat 20))) .nil) (lf (.int .i64 (.ofNat 19)))))) .nil))) .nil
def pH:T Ab:=no .nil xN
def oP:T Ab:=no (no .nil (no .nil (no (lf (.cells 4 (nd y9 (nd (.int .i64 (.ofNat 327)) (lf (.int .i64 (.ofNat 3))) .nil) (lf (.int .i64 (.ofNat 20)))))) .nil))) .nil
def m6:T Ab:=no .nil oP
def AQ:T AV:=nd (.str 0 0) (lf (.int .i64 (.ofNat 20))) .nil
def Xf:T Ab:=no (no .nil (no .nil (no (lf (.cells 4 (nd y9 (nd (.int .i64 (.ofNat 331)) (lf (.int .i64 (.ofNat 7))) .nil) (lf (.int .i64 (.ofNat 20)))))) .nil))) .nil
def lh:T Ab:=no (no .nil (no .nil (no (lf (.cells 4 (nd y9 (nd (.int .i64 (.ofNat 332)) (lf (.int .i64 (.ofNat 8))) .nil) (lf (.int .i64 (.ofNat 20)))))) .nil))) .nil
def hI:T Ab:=no .nil lh
def tR:T Ab:=no (no .nil (no .nil (no (lf (.cells 4 (nd y9 (nd (.int .i64 (.ofNat 333)) (lf (.int .i64 (.ofNat 9))) .nil) (lf (.int .i64 (.ofNat 20)))))) .nil))) .nil
def yH:T Ab:=no .nil tR
def lI:T Ab:=no (no .nil (no .nil (no (lf (.cells 4 (nd y9 (nd (.int .i64 (.ofNat 339)) (lf (.int .i64 (.ofNat 15))) .nil) (lf (.int .i64 (.ofNat 20)))))) .nil))) .nil
def qS:T Ab:=no .nil lI
def vC:T Ab:=no .nil (no .nil (no (lf (.cells 4 (nd y9 (nd (.int .i64 (.ofNat 340)) (lf (.int .i64 (.ofNat 16))) .nil) (lf (.int .i64 (.ofNat 20)))))) .nil))
def sc:T Ab:=no .nil (no vC .nil)
def mc:T Ab:=no .nil (no .nil (no (lf (.cells 4 (nd y9 (nd (.int .i64 (.ofNat 342)) (lf (.int .i64 (.ofNat 18))) .nil) (lf (.int .i64 (.ofNat 20)))))) .nil))
def vD:T Ab:=no .nil (no mc .nil)
def vb:T Ab:=no (no .nil (no .nil (no (lf (.cells 4 (nd y9 (nd (.int .i64 (.ofNat 343)) (lf (.int .i64 (.ofNat 19))) .nil) (lf (.int .i64 (.ofNat 20)))))) .nil))) .nil
def sT:T Ab:=no .nil vb
def rH:T Ab:=no (no .nil (no .nil (no (lf (.cells 4 (nd y9 (nd (.int .i64 (.ofNat 344)) (lf (.int .i64 (.ofNat 20))) .nil) (lf (.int .i64 (.ofNat 20)))))) .nil))) .nil
def jC:T Ab:=no .nil rH
def yI:T Ab:=no (no .nil (no .nil (no (lf (.cells 4 (nd y9 (nd (.int .i64 (.ofNat 345)) (lf (.int .i64 (.ofNat 21))) .nil) (lf (.int .i64 (.ofNat 20)))))) .nil))) .nil
def qH:T Ab:=no .nil yI
def Xm:T Ab:=no (no .nil (no .nil (no (lf (.cells 4 (nd y9 (nd (.int .i64 (.ofNat 346)) (lf (.int .i64 (.ofNat 22))) .nil) (lf (.int .i64 (.ofNat 20)))))) .nil))) .nil
def iG:T Ab:=no (lf (.cells 4 (nd y9 (nd (.int .i64 (.ofNat 348)) (lf (.int .i64 (.ofNat 24))) .nil) (lf (.int .i64 (.ofNat 20)))))) .nil
def rA:T Ab:=no (no .nil (no .nil iG)) .nil
def ya:T Ab:=no (lf (.cells 4 (nd y9 (nd (.int .i64 (.ofNat 349)) (lf (.int .i64 (.ofNat 25))) .nil) (lf (.int .i64 (.ofNat 20)))))) .nil
def xA:T Ab:=no .nil (no .nil ya)
def jo:T AV:=nd (.int .i64 (.ofNat 0)) (lf (.int .i64 (.ofNat 25))) .nil
def pw:T Ab:=no .nil (no .nil (no (lf (.cells 4 (nd y9 (nd (.int .i64 (.ofNat 350)) (lf (.int .i64 (.ofNat 26))) .nil) (lf (.int .i64 (.ofNat 20)))))) .nil))
def mw:T Ab:=no .nil (no pw .nil)
def mr:T Ab:=no .nil (no (lf (.cells 4 (nd y9 (nd (.int .i64 (.ofNat 351)) (lf (.int .i64 (.ofNat 27))) .nil) (lf (.int .i64 (.ofNat 20)))))) .nil)
def nX:T Ab:=no .nil (no (no .nil mr) .nil)
def kN:T Ab:=no (lf (.cells 4 (nd y9 (nd (.int .i64 (.ofNat 358)) (lf (.int .i64 (.ofNat 34))) .nil) (lf (.int .i64 (.ofNat 20)))))) .nil
def iN:T Ab:=no .nil kN
def xC:T AV:=nd (.int .i64 (.ofNat 0)) (lf (.int .i64 (.ofNat 34))) .nil
def vI:T Ab:=no (lf (.cells 4 (nd y9 (nd (.int .i64 (.ofNat 359)) (lf (.int .i64 (.ofNat 35))) .nil) (lf (.int .i64 (.ofNat 20)))))) .nil
def pY:T Ab:=no .nil (no (no .nil (no .nil vI)) .nil)
def py:T Ab:=no .nil (no .nil (no (lf (.cells 4 (nd y9 (nd (.int .i64 (.ofNat 360)) (lf (.int .i64 (.ofNat 36))) .nil) (lf (.int .i64 (.ofNat 20)))))) .nil))
def yA:T Ab:=no .nil (no py .nil)
def mG:T Ab:=no .nil (no (lf (.cells 4 (nd y9 (nd (.int .i64 (.ofNat 361)) (lf (.int .i64 (.ofNat 37))) .nil) (lf (.int .i64 (.ofNat 20)))))) .nil)
def yp:T Ab:=no .nil mG
def hQ:T AV:=nd (.int .i64 (.ofNat 0)) (lf (.int .i64 (.ofNat 37))) .nil
def xB:T Ab:=no .nil (no (lf (.cells 4 (nd y9 (nd (.int .i64 (.ofNat 363)) (lf (.int .i64 (.ofNat 39))) .nil) (lf (.int .i64 (.ofNat 20)))))) .nil)
def fN:T Ab:=no (no .nil xB) .nil
def Yu:T Ab:=no (no .nil (no .nil (no (lf (.cells 4 (nd y9 (nd (.int .i64 (.ofNat 364)) (lf (.int .i64 (.ofNat 40))) .nil) (lf (.int .i64 (.ofNat 20)))))) .nil))) .nil
def wC:T AV:=nd (.int .i64 (.ofNat 0)) (lf (.int .i64 (.ofNat 40))) .nil
def lL:T Ab:=no (no .nil (no .nil (no (lf (.cells 4 (nd y9 (nd (.int .i64 (.ofNat 365)) (lf (.int .i64 (.ofNat 41))) .nil) (lf (.int .i64 (.ofNat 20)))))) .nil))) .nil
def gI:T Ab:=no .nil lL
def xy:T Ab:=no (no .nil (no .nil (no (lf (.cells 4 (nd y9 (nd (.int .i64 (.ofNat 366)) (lf (.int .i64 (.ofNat 42))) .nil) (lf (.int .i64 (.ofNat 20)))))) .nil))) .nil
def ia:T Ab:=no .nil xy
def jP:T AV:=nd (.int .i64 (.ofNat 0)) (lf (.int .i64 (.ofNat 42))) .nil
def fH:T Ab:=no (no .nil (no .nil (no (lf (.cells 4 (nd y9 (nd (.int .i64 (.ofNat 371)) (lf (.int .i64 (.ofNat 47))) .nil) (lf (.int .i64 (.ofNat 20)))))) .nil))) .nil
def li:T AV:=nd (.int .i64 (.ofNat 0)) (lf (.int .i64 (.ofNat 47))) .nil
def nN:T Ab:=no (no .nil (no .nil (no (lf (.cells 4 (nd y9 (nd (.int .i64 (.ofNat 372)) (lf (.int .i64 (.ofNat 48))) .nil) (lf (.int .i64 (.ofNat 20)))))) .nil))) .nil
def n8:T Ab:=no .nil nN
def ye:T Ab:=no (no .nil (no .nil (no (lf (.cells 4 (nd y9 (nd (.int .i64 (.ofNat 373)) (lf (.int .i64 (.ofNat 49))) .nil) (lf (.int .i64 (.ofNat 20)))))) .nil))) .nil
def gp:T Ab:=no .nil ye
def ax:T Ab:=no (no .nil (no .nil (no (lf (.cells 4 (nd y9 (nd (.int .i64 (.ofNat 374)) (lf (.int .i64 (.ofNat 50))) .nil) (lf (.int .i64 (.ofNat 20)))))) .nil))) .nil
def pa:T AV:=nd (.int .i64 (.ofNat 0)) (lf (.int .i64 (.ofNat 50))) .nil
def gS:T Ab:=no .nil (no .nil (no (lf (.cells 4 (nd y9 (nd (.int .i64 (.ofNat 376)) (lf (.int .i64 (.ofNat 52))) .nil) (lf (.int .i64 (.ofNat 20)))))) .nil))
def wT:T Ab:=no gS .nil
def tu:Ab:=.cells 4 (nd y9 (nd (.int .i64 (.ofNat 377)) (lf (.int .i64 (.ofNat 53))) .nil) (lf (.int .i64 (.ofNat 20))))
def jm:T Ab:=no .nil (no .nil (no (lf tu) .nil))
def gM:T AV:=nd (.int .i64 (.ofNat 0)) (lf (.int .i64 (.ofNat 53))) .nil
def pO:Ab:=.cells 4 (nd y9 (nd (.int .i64 (.ofNat 378)) (lf (.int .i64 (.ofNat 54))) .nil) (lf (.int .i64 (.ofNat 20))))
def iY:T Ab:=no .nil (no (no .nil (no .nil (no (lf pO) .nil))) .nil)
def tC:T Ab:=no .nil (no .nil (no (lf (.cells 4 (nd y9 (nd (.int .i64 (.ofNat 379)) (lf (.int .i64 (.ofNat 55))) .nil) (lf (.int .i64 (.ofNat 20)))))) .nil))
def nY:T Ab:=no .nil (no tC .nil)
def qZ:T AV:=nd (.int .i64 (.ofNat 0)) (lf (.int .i64 (.ofNat 55))) .nil
def ZL:T Ab:=no .nil (no .nil (no (lf (.cells 4 (nd y9 (nd (.int .i64 (.ofNat 382)) (lf (.int .i64 (.ofNat 58))) .nil) (lf (.int .i64 (.ofNat 20)))))) .nil))
def f5:T AV:=nd (.int .i64 (.ofNat 0)) (lf (.int .i64 (.ofNat 58))) .nil
def rK:T Ab:=no .nil (no .nil (no (lf (.cells 4 (nd y9 (nd (.int .i64 (.ofNat 383)) (lf (.int .i64 (.ofNat 59))) .nil) (lf (.int .i64 (.ofNat 20)))))) .nil))
def mi:T Ab:=no .nil (no rK .nil)
def th:T Ab:=lf (.cells 4 (nd y9 (nd (.int .i64 (.ofNat 384)) (lf (.int .i64 (.ofNat 60))) .nil) (lf (.int .i64 (.ofNat 20)))))
def l9:T Ab:=no .nil (no (no .nil (no .nil (no th .nil))) .nil)
def fQ:T Ab:=lf (.cells 4 (nd y9 (nd (.int .i64 (.ofNat 385)) (lf (.int .i64 (.ofNat 61))) .nil) (lf (.int .i64 (.ofNat 20)))))
def nS:T Ab:=no .nil (no .nil (no fQ .nil))
def oW:T AV:=nd (.int .i64 (.ofNat 0)) (lf (.int .i64 (.ofNat 61))) .nil
def qJ:T Ab:=no .nil (no .nil (no (lf (.cells 4 (nd y9 (nd (.int .i64 (.ofNat 387)) (lf (.int .i64 (.ofNat 63))) .nil) (lf (.int .i64 (.ofNat 20)))))) .nil))
def su:T Ab:=no qJ .nil
def dO:T Ab:=no (no .nil (no .nil (no (lf (.cells 4 (nd y9 (nd (.int .i64 (.ofNat 388)) (lf (.int .i64 (.ofNat 64))) .nil) (lf (.int .i64 (.ofNat 20)))))) .nil))) .nil
def jg:T AV:=nd (.int .i64 (.ofNat 0)) (lf (.int .i64 (.ofNat 64))) .nil
def kj:T Ab:=no (no .nil (no .nil (no (lf (.cells 4 (nd y9 (nd (.int .i64 (.ofNat 389)) (lf (.int .i64 (.ofNat 65))) .nil) (lf (.int .i64 (.ofNat 20)))))) .nil))) .nil
def sx:T Ab:=no .nil kj
def wP:T Ab:=no (no .nil (no .nil (no (lf (.cells 4 (nd y9 (nd (.int .i64 (.ofNat 390)) (lf (.int .i64 (.ofNat 66))) .nil) (lf (.int .i64 (.ofNat 20)))))) .nil))) .nil
def qi:T Ab:=no .nil wP
def xS:T AV:=nd (.int .i64 (.ofNat 0)) (lf (.int .i64 (.ofNat 66))) .nil
def Zh:T Ab:=no (no .nil (no .nil (no (lf (.cells 4 (nd y9 (nd (.int .i64 (.ofNat 395)) (lf (.int .i64 (.ofNat 71))) .nil) (lf (.int .i64 (.ofNat 20)))))) .nil))) .nil
def lK:T AV:=nd (.int .i64 (.ofNat 0)) (lf (.int .i64 (.ofNat 71))) .nil
def mu:T Ab:=no (no .nil (no .nil (no (lf (.cells 4 (nd y9 (nd (.int .i64 (.ofNat 396)) (lf (.int .i64 (.ofNat 72))) .nil) (lf (.int .i64 (.ofNat 20)))))) .nil))) .nil
def qR:T Ab:=no .nil mu
def oY:T Ab:=no (no .nil (no .nil (no (lf (.cells 4 (nd y9 (nd (.int .i64 (.ofNat 397)) (lf (.int .i64 (.ofNat 73))) .nil) (lf (.int .i64 (.ofNat 20)))))) .nil))) .nil
def uC:T Ab:=no .nil oY
def wQ:T AV:=nd (.int .i64 (.ofNat 0)) (lf (.int .i64 (.ofNat 73))) .nil
def mN:T Ab:=no .nil (no .nil (no (lf (.cells 4 (nd y9 (nd (.int .i64 (.ofNat 398)) (lf (.int .i64 (.ofNat 74))) .nil) (lf (.int .i64 (.ofNat 20)))))) .nil))
def jN:T Ab:=no mN .nil
def rX:T AV:=nd (.int .i64 (.ofNat 0)) (lf (.int .i64 (.ofNat 74))) .nil
def mj:T Ab:=no .nil (no .nil (no (lf (.cells 4 (nd y9 (nd (.int .i64 (.ofNat 399)) (lf (.int .i64 (.ofNat 75))) .nil) (lf (.int .i64 (.ofNat 20)))))) .nil))
def tv:T Ab:=no .nil (no mj .nil)
def mZ:T Ab:=no .nil (no (lf (.cells 4 (nd y9 (nd (.int .i64 (.ofNat 400)) (lf (.int .i64 (.ofNat 1))) .nil) (lf (.int .i64 (.ofNat 21)))))) .nil)
def rk:T Ab:=no .nil (no (no .nil mZ) .nil)
def ib:T AV:=nd (.str 0 0) (lf (.int .i64 (.ofNat 21))) .nil
def ku:T Ab:=no .nil (no (lf (.cells 4 (nd y9 (nd (.int .i64 (.ofNat 401)) (lf (.int .i64 (.ofNat 2))) .nil) (lf (.int .i64 (.ofNat 21)))))) .nil)
def tf:T Ab:=no .nil (no (no .nil ku) .nil)
def sC:T Ab:=no .nil (no .nil (no (lf (.cells 4 (nd y9 (nd (.int .i64 (.ofNat 402)) (lf (.int .i64 (.ofNat 1))) .nil) (lf (.int .i64 (.ofNat 22)))))) .nil))
def qW:T Ab:=no .nil (no sC .nil)
def RX:T AV:=nd (.str 0 0) (lf (.int .i64 (.ofNat 22))) .nil
def lq:T Ab:=no .nil (no .nil (no (lf (.cells 4 (nd y9 (nd (.int .i64 (.ofNat 407)) (lf (.int .i64 (.ofNat 6))) .nil) (lf (.int .i64 (.ofNat 22)))))) .nil))
def oE:T Ab:=no .nil (no lq .nil)
def wc:T Ab:=no (no .nil (no .nil (no (lf (.cells 4 (nd y9 (nd (.int .i64 (.ofNat 408)) (lf (.int .i64 (.ofNat 7))) .nil) (lf (.int .i64 (.ofNat 22)))))) .nil))) .nil
def qL:T Ab:=no .nil wc
def aB:T Ab:=no (no .nil (no .nil (no (lf (.cells 4 (nd y9 (nd (.int .i64 (.ofNat 414)) (lf (.int .i64 (.ofNat 13))) .nil) (lf (.int .i64 (.ofNat 22)))))) .nil))) .nil
def uy:T Ab:=no (no .nil (no .nil (no (lf (.cells 4 (nd y9 (nd (.int .i64 (.ofNat 415)) (lf (.int .i64 (.ofNat 14))) .nil) (lf (.int .i64 (.ofNat 22)))))) .nil))) .nil
def nR:T Ab:=no .nil uy
def rG:T Ab:=no .nil (no .nil (no (lf (.cells 4 (nd y9 (nd (.int .i64 (.ofNat 416)) (lf (.int .i64 (.ofNat 1))) .nil) (lf (.int .i64 (.ofNat 23)))))) .nil))
def lB:T Ab:=no .nil (no rG .nil)
def iL:T AV:=nd (.int .i64 (.ofNat 1)) (lf (.str 2 11822)) .nil
def vd:T AV:=nd (.int .i64 (.ofNat 3)) (lf (.int .i64 (.ofNat 2))) .nil
def wF:T AV:=nd (.str 2 13873) (lf (.int .i64 (.ofNat 0))) .nil
def oS:T AV:=nd (.int .i64 (.ofNat 2)) (lf (.str 1 59)) .nil
def lX:T AV:=nd (.int .i64 (.ofNat 0)) oS (lf (.int .i64 (.ofNat 20)))
def oD:T AV:=nd (.int .i64 (.ofNat 1)) (lf (.int .i64 (.ofNat 1))) .nil
def xQ:T AV:=nd (.int .i64 (.ofNat 9)) y97 (lf (.int .i64 (.ofNat 4)))
def pF:T AV:=nd (.int .i64 (.ofNat 1)) (lf (.str 1 59)) .nil
def vW:T AV:=nd (.int .i64 (.ofNat 1)) (lf (.str 1 58)) .nil
def kR:T AV:=nd (.int .i64 (.ofNat 9)) (lf (.int .i64 (.ofNat 1))) .nil
def xE:T AV:=nd (.int .i64 (.ofNat 20)) (lf (.int .i64 (.ofNat 4))) .nil
def ly:T AV:=nd (.int .i64 (.ofNat 4)) (lf (.str 1 53)) .nil
def qC:T AV:=nd (.int .i64 (.ofNat 16)) (lf (.int .i64 (.ofNat 20))) .nil
def um:T AV:=nd (.str 1 48) (lf (.int .i64 (.ofNat 0))) .nil
def Wh:T AV:=nd (.int .i64 (.ofNat 9)) (lf (.int .i64 (.ofNat 4))) .nil
def iE:T AV:=nd (.int .i64 (.ofNat 4)) (lf (.str 1 52)) .nil
def nH:T AV:=nd (.int .i64 (.ofNat 0)) (nd (.int .i64 (.ofNat 4)) (lf (.str 1 125)) .nil) (lf (.int .i64 (.ofNat 20)))
def lw:T AV:=nd (.int .i64 (.ofNat 0)) (lf (.int .i64 (.ofNat 2))) (lf (.int .i64 (.ofNat 20)))
def uB:T AV:=nd (.str 4 1953393013) (lf (.int .i64 (.ofNat 0))) .nil
def sM:T Ab:=no .nil (no .nil (no (lf (.cells 625 (nd (.int .i64 (.ofNat 1)) (nd (.str 8 7813573208857080432) (nd (.int .i64 (.ofNat 1)) (nd (.int .i64 (.ofNat 0)) (nd (.int .i64 (.ofNat 1)) (nd (.str 4 1701603686) (nd (.int .i64 (.ofNat 3)) (nd (.int .i64 (.ofNat 0)) iL (lf (.int .i64 (.ofNat 16)))) (nd (.str 3 3289397) vd (lf (.int .i64 (.ofNat 0))))) (nd (.int .i64 (.ofNat 4)) (nd (.int .i64 (.ofNat 27)) (nd (.int .i64 (.ofNat 65535)) (lf (.int .i64 (.ofNat 20))) .nil) (lf (.int .i64 (.ofNat 4)))) (nd (.int .i64 (.ofNat 9)) (nd (.str 1 59) (lf (.int .i64 (.ofNat 0))) .nil) (lf (.int .i64 (.ofNat 21)))))) (nd (.int .i64 (.ofNat 0)) (nd (.int .i64 (.ofNat 9)) (nd (.int .i64 (.ofNat 7)) wF (lf (.int .i64 (.ofNat 1)))) lX) (nd (.str 5 461229747266) (nd (.int .i64 (.ofNat 2)) (nd (.int .i64 (.ofNat 14)) (lf (.int .i64 (.ofNat 55))) .nil) (lf (.str 1 49))) (nd (.int .i64 (.ofNat 1)) OU (lf (.int .i64 (.ofNat 1))))))) (nd (.int .i64 (.ofNat 2)) (nd (.int .i64 (.ofNat 7)) (nd (.str 1 58) (nd (.int .i64 (.ofNat 2)) (nd (.int .i64 (.ofNat 12)) (lf (.int .i64 (.ofNat 39))) .nil) (lf (.str 1 125))) (nd (.int .i64 (.ofNat 23)) y97 (lf (.int .i64 (.ofNat 4))))) (nd (.int .i64 (.ofNat 5)) (nd (.int .i64 (.ofNat 0)) (nd (.int .i64 (.ofNat 4)) (lf (.str 1 58)) .nil) (lf (.int .i64 (.ofNat 19)))) (nd (.str 1 59) (nd (.int .i64 (.ofNat 3)) (lf (.int .i64 (.ofNat 1))) .nil) (lf (.int .i64 (.ofNat 2)))))) (nd (.int .i64 (.ofNat 2)) (nd (.int .i64 (.ofNat 0)) (nd (.str 5 228492391734) (nd (.int .i64 (.ofNat 19)) (lf (.int .i64 (.ofNat 2))) .nil) (lf (.int .i64 (.ofNat 0)))) (nd (.int .i64 (.ofNat 4)) (nd (.int .i64 (.ofNat 15)) (lf (.int .i64 (.ofNat 73))) .nil) (lf (.str 1 123)))) (nd (.int .i64 (.ofNat 15)) (nd (.int .i64 (.ofNat 8)) (nd (.str 1 123) (lf (.int .i64 (.ofNat 5))) .nil) (lf (.int .i64 (.ofNat 16)))) (nd (.int .i64 (.ofNat 0)) (lf (.int .i64 (.ofNat 1))) (lf (.int .i64 (.ofNat 20)))))))) (nd (.str 1 59) (nd (.int .i64 (.ofNat 1)) (nd (.int .i64 (.ofNat 4)) (nd (.int .i64 (.ofNat 0)) (nd (.str 4 1953393013) vd (lf (.int .i64 (.ofNat 0)))) (nd (.int .i64 (.ofNat 4)) (nd (.int .i64 (.ofNat 15)) (lf (.int .i64 (.ofNat 63))) .nil) (lf (.str 4 2036625250)))) (nd (.int .i64 (.ofNat 23)) (nd (.int .i64 (.ofNat 8)) (nd (.str 1 59) (lf (.int .i64 (.ofNat 4))) .nil) (lf (.int .i64 (.ofNat 5)))) (nd (.int .i64 (.ofNat 0)) (nd (.int .i64 (.ofNat 1)) (lf (.str 5 500135195763)) .nil) (lf (.int .i64 (.ofNat 20)))))) (nd (.str 3 7889261) (nd (.int .i64 (.ofNat 4)) (nd (.int .i64 (.ofNat 0)) oS (lf (.int .i64 (.ofNat 18)))) (nd (.str 5 495623371106) (nd (.int .i64 (.ofNat 17)) (lf (.int .i64 (.ofNat 4))) .nil) (lf (.int .i64 (.ofNat 0))))) (nd (.int .i64 (.ofNat 4)) (nd (.int .i64 (.ofNat 14)) y97 (lf (.int .i64 (.ofNat 4)))) (nd (.int .i64 (.ofNat 11)) (lf (.str 1 48)) (lf (.int .i64 (.ofNat 27))))))) (nd (.int .i64 (.ofNat 0)) (nd (.int .i64 (.ofNat 3)) (nd (.int .i64 (.ofNat 1)) (nd (.int .i64 (.ofNat 16)) y97 (lf (.int .i64 (.ofNat 1)))) (nd (.int .i64 (.ofNat 9)) wF (lf (.int .i64 (.ofNat 7))))) (nd (.int .i64 (.ofNat 0)) (nd (.str 4 1953393013) oD (lf (.int .i64 (.ofNat 16)))) (nd (.int .i64 (.ofNat 4)) (nd (.int .i64 (.ofNat 16)) (lf (.int .i64 (.ofNat 7))) .nil) (lf (.str 1 58))))) (nd (.int .i64 (.ofNat 21)) (nd (.str 2 13873) (nd (.int .i64 (.ofNat 4)) (nd (.int .i64 (.ofNat 12)) (lf (.int .i64 (.ofNat 49))) .nil) (lf (.str 2 28783))) (nd (.int .i64 (.ofNat 15)) oz (lf (.int .i64 (.ofNat 2))))) (nd (.int .i64 (.ofNat 7)) (nd (.int .i64 (.ofNat 0)) iL (lf (.int .i64 (.ofNat 19)))) (nd (.str 1 123) (lf (.int .i64 (.ofNat 19))) (lf (.int .i64 (.ofNat 3))))))))) (nd (.int .i64 (.ofNat 1)) (nd (.int .i64 (.ofNat 10)) (nd (.int .i64 (.ofNat 0)) (nd (.int .i64 (.ofNat 3)) (nd (.int .i64 (.ofNat 1)) xQ (nd (.int .i64 (.ofNat 8)) (nd (.str 1 58) (lf (.int .i64 (.ofNat 5))) .nil) (lf (.int .i64 (.ofNat 19))))) (nd (.int .i64 (.ofNat 0)) (nd (.str 4 1702521203) (nd (.int .i64 (.ofNat 22)) (lf (.int .i64 (.ofNat 2))) .nil) (lf (.int .i64 (.ofNat 0)))) (nd (.int .i64 (.ofNat 4)) (nd (.int .i64 (.ofNat 15)) (lf (.int .i64 (.ofNat 1))) .nil) (lf (.str 2 11822))))) (nd (.int .i64 (.ofNat 15)) (nd (.str 1 48) (nd (.int .i64 (.ofNat 4)) (nd (.int .i64 (.ofNat 12)) (lf (.int .i64 (.ofNat 42))) .nil) (lf (.str 6 127978942194000))) (nd (.int .i64 (.ofNat 7)) y97 (lf (.int .i64 (.ofNat 1))))) (nd (.int .i64 (.ofNat 6)) (nd (.int .i64 (.ofNat 16)) pF (lf (.int .i64 (.ofNat 19)))) (nd (.str 7 28542640894207341) (lf (.int .i64 (.ofNat 11))) (lf (.int .i64 (.ofNat 0))))))) (nd (.int .i64 (.ofNat 4)) (nd (.str 5 465625706101) (nd (.int .i64 (.ofNat 4)) (nd (.int .i64 (.ofNat 16)) vW (lf (.int .i64 (.ofNat 17)))) (nd (.str 4 1635017060) kR (lf (.int .i64 (.ofNat 0))))) (nd (.int .i64 (.ofNat 1)) (nd (.int .i64 (.ofNat 7)) y97 (lf (.int .i64 (.ofNat 2)))) (nd (.int .i64 (.ofNat 9)) (nd (.str 1 58) (lf (.int .i64 (.ofNat 0))) .nil) (lf (.int .i64 (.ofNat 24)))))) (nd (.int .i64 (.ofNat 128)) (nd (.int .i64 (.ofNat 17)) (nd (.int .i64 (.ofNat 7)) (nd (.str 2 11822) (lf (.int .i64 (.ofNat 4))) .nil) (lf (.int .i64 (.ofNat 16)))) lX) (nd (.str 6 125779768604014) (nd (.int .i64 (.ofNat 4)) (nd (.int .i64 (.ofNat 14)) (lf (.int .i64 (.ofNat 60))) .nil) (lf (.str 1 53))) (nd (.int .i64 (.ofNat 9)) (lf (.int .i64 (.ofNat 0))) (lf (.int .i64 (.ofNat 2)))))))) (nd (.int .i64 (.ofNat 1)) (nd (.str 7 32777976897693010) (nd (.int .i64 (.ofNat 0)) (nd (.int .i64 (.ofNat 3)) (nd (.int .i64 (.ofNat 7)) (nd (.str 1 58) (lf (.int .i64 (.ofNat 3))) .nil) (lf (.int .i64 (.ofNat 26)))) (nd (.int .i64 (.ofNat 0)) vW (lf (.int .i64 (.ofNat 20))))) (nd (.str 1 125) (nd (.int .i64 (.ofNat 4)) (nd (.int .i64 (.ofNat 12)) (lf (.int .i64 (.ofNat 52))) .nil) (lf (.str 4 1953393013))) (nd (.int .i64 (.ofNat 20)) OU (lf (.int .i64 (.ofNat 2)))))) (nd (.int .i64 (.ofNat 3)) (nd (.int .i64 (.ofNat 1)) (nd (.int .i64 (.ofNat 20)) y97 (lf (.int .i64 (.ofNat 4)))) (nd (.int .i64 (.ofNat 9)) (nd (.str 2 11822) (lf (.int .i64 (.ofNat 0))) .nil) (lf (.int .i64 (.ofNat 16))))) (nd (.int .i64 (.ofNat 0)) (nd (.str 1 48) (nd (.int .i64 (.ofNat 9)) (lf (.int .i64 (.ofNat 2))) .nil) (lf (.int .i64 (.ofNat 0)))) (nd (.int .i64 (.ofNat 1)) (lf (.int .i64 (.ofNat 16))) (lf (.str 1 59)))))) (nd (.int .i64 (.ofNat 17)) (nd (.int .i64 (.ofNat 2)) (nd (.int .i64 (.ofNat 0)) (nd (.str 1 48) (nd (.int .i64 (.ofNat 11)) (lf (.int .i64 (.ofNat 1))) .nil) (lf (.int .i64 (.ofNat 0)))) (nd (.int .i64 (.ofNat 4)) (nd (.int .i64 (.ofNat 15)) (lf (.int .i64 (.ofNat 66))) .nil) (lf (.str 6 111477645076579)))) (nd (.int .i64 (.ofNat 1)) (nd (.int .i64 (.ofNat 8)) (nd (.str 7 28542640894207341) (lf (.int .i64 (.ofNat 0))) .nil) (lf (.int .i64 (.ofNat 12)))) (nd (.int .i64 (.ofNat 0)) pF (lf (.int .i64 (.ofNat 20)))))) (nd (.str 1 59) (nd (.int .i64 (.ofNat 4)) (nd (.int .i64 (.ofNat 0)) (nd (.int .i64 (.ofNat 2)) (lf (.str 2 11822)) .nil) (lf (.int .i64 (.ofNat 19)))) (nd (.str 4 1702521203) xE (lf (.int .i64 (.ofNat 1))))) (nd (.int .i64 (.ofNat 4)) (nd (.int .i64 (.ofNat 18)) y97 (lf (.int .i64 (.ofNat 4)))) (nd (.int .i64 (.ofNat 11)) (lf (.str 3 3158066)) (lf (.int .i64 (.ofNat 36)))))))))) (nd (.int .i64 (.ofNat 0)) (nd (.int .i64 (.ofNat 1)) (nd (.int .i64 (.ofNat 1)) (nd (.str 7 28542640894207341) (nd (.int .i64 (.ofNat 0)) (nd (.int .i64 (.ofNat 24)) (nd (.int .i64 (.ofNat 7)) (nd (.str 6 125779768604014) (lf (.int .i64 (.ofNat 0))) .nil) (lf (.int .i64 (.ofNat 23)))) (nd (.int .i64 (.ofNat 512)) ly (lf (.int .i64 (.ofNat 19))))) (nd (.str 1 59) (nd (.int .i64 (.ofNat 1)) (nd (.int .i64 (.ofNat 12)) (lf (.int .i64 (.ofNat 50))) .nil) (lf (.str 1 58))) (nd (.int .i64 (.ofNat 16)) y24 (lf (.int .i64 (.ofNat 4)))))) (nd (.int .i64 (.ofNat 3)) (nd (.int .i64 (.ofNat 2)) (nd (.int .i64 (.ofNat 19)) qC (lf (.int .i64 (.ofNat 1)))) (nd (.int .i64 (.ofNat 9)) um (lf (.int .i64 (.ofNat 9))))) (nd (.int .i64 (.ofNat 0)) (nd (.str 2 13873) (nd (.int .i64 (.ofNat 1)) (lf (.int .i64 (.ofNat 4))) .nil) (lf (.int .i64 (.ofNat 1)))) (nd (.int .i64 (.ofNat 1)) (nd (.int .i64 (.ofNat 16)) (lf (.int .i64 (.ofNat 13))) .nil) (lf (.str 7 32777976897693010)))))) (nd (.int .i64 (.ofNat 9)) (nd (.int .i64 (.ofNat 1)) (nd (.int .i64 (.ofNat 0)) (nd (.str 2 13873) Wh (lf (.int .i64 (.ofNat 0)))) (nd (.int .i64 (.ofNat 1)) (nd (.int .i64 (.ofNat 15)) (lf (.int .i64 (.ofNat 64))) .nil) (lf (.str 1 58)))) (nd (.int .i64 (.ofNat 1)) (nd (.int .i64 (.ofNat 8)) (nd (.str 1 125) (lf (.int .i64 (.ofNat 0))) .nil) (lf (.int .i64 (.ofNat 7)))) (nd (.int .i64 (.ofNat 0)) (nd (.int .i64 (.ofNat 4)) (lf (.str 6 127978942194000)) .nil) (lf (.int .i64 (.ofNat 20)))))) (nd (.str 3 3682865) (nd (.int .i64 (.ofNat 4)) (nd (.int .i64 (.ofNat 65535)) iE (lf (.int .i64 (.ofNat 18)))) (nd (.str 1 91) (nd (.int .i64 (.ofNat 18)) (lf (.int .i64 (.ofNat 4))) .nil) (lf (.int .i64 (.ofNat 0))))) (nd (.int .i64 (.ofNat 1)) (nd (.int .i64 (.ofNat 17)) y97 (lf (.int .i64 (.ofNat 2)))) (nd (.int .i64 (.ofNat 11)) (lf (.str 3 7889261)) (lf (.int .i64 (.ofNat 34)))))))) (nd (.int .i64 (.ofNat 0)) (nd (.int .i64 (.ofNat 1)) (nd (.str 1 58) (nd (.int .i64 (.ofNat 4)) (nd (.int .i64 (.ofNat 0)) (nd (.int .i64 (.ofNat 4)) (lf (.str 1 51)) .nil) (lf (.int .i64 (.ofNat 16)))) (nd (.str 1 59) (nd (.int .i64 (.ofNat 7)) (lf (.int .i64 (.ofNat 4))) .nil) (lf (.int .i64 (.ofNat 0))))) (nd (.int .i64 (.ofNat 4)) (nd (.int .i64 (.ofNat 3)) y97 (lf (.int .i64 (.ofNat 1)))) (nd (.int .i64 (.ofNat 9)) (nd (.str 6 121424956188018) (lf (.int .i64 (.ofNat 0))) .nil) (lf (.int .i64 (.ofNat 22)))))) (nd (.int .i64 (.ofNat 0)) (nd (.int .i64 (.ofNat 15)) (nd (.int .i64 (.ofNat 7)) um (lf (.int .i64 (.ofNat 9)))) nH) (nd (.str 1 123) (nd (.int .i64 (.ofNat 2)) (nd (.int .i64 (.ofNat 14)) (lf (.int .i64 (.ofNat 58))) .nil) (lf (.str 2 11822))) (nd (.int .i64 (.ofNat 1)) (lf (.int .i64 (.ofNat 0))) (lf (.int .i64 (.ofNat 4))))))) (nd (.int .i64 (.ofNat 2)) (nd (.int .i64 (.ofNat 9)) (nd (.str 5 465625706101) (nd (.int .i64 (.ofNat 2)) (nd (.int .i64 (.ofNat 12)) (lf (.int .i64 (.ofNat 40))) .nil) (lf (.str 7 28542640894207341))) (nd (.int .i64 (.ofNat 3)) qC (lf (.int .i64 (.ofNat 1))))) (nd (.int .i64 (.ofNat 6)) (nd (.int .i64 (.ofNat 0)) (nd (.int .i64 (.ofNat 1)) (lf (.str 3 7037761)) .nil) (lf (.int .i64 (.ofNat 19)))) (nd (.str 1 125) Wh (lf (.int .i64 (.ofNat 0)))))) (nd (.int .i64 (.ofNat 4)) (nd (.int .i64 (.ofNat 16)) (nd (.str 1 59) xE (lf (.int .i64 (.ofNat 0)))) (nd (.int .i64 (.ofNat 1)) (nd (.int .i64 (.ofNat 15)) (lf (.int .i64 (.ofNat 74))) .nil) (lf (.str 1 49)))) (nd (.int .i64 (.ofNat 3)) (nd (.int .i64 (.ofNat 8)) (nd (.str 4 1701080931) (lf (.int .i64 (.ofNat 0))) .nil) (lf (.int .i64 (.ofNat 18)))) lw))))) (nd (.str 5 495622842726) (nd (.int .i64 (.ofNat 4)) (nd (.int .i64 (.ofNat 2)) (nd (.int .i64 (.ofNat 3)) (nd (.str 4 1701080941) (nd (.int .i64 (.ofNat 1)) (nd (.int .i64 (.ofNat 12)) (lf (.int .i64 (.ofNat 37))) .nil) (lf (.str 1 59))) (nd (.int .i64 (.ofNat 20)) y97 (lf (.int .i64 (.ofNat 1))))) (nd (.int .i64 (.ofNat 4)) (nd (.int .i64 (.ofNat 0)) iE (lf (.int .i64 (.ofNat 19)))) (nd (.str 1 93) (nd (.int .i64 (.ofNat 21)) (lf (.int .i64 (.ofNat 1))) .nil) (lf (.int .i64 (.ofNat 0)))))) (nd (.int .i64 (.ofNat 1)) (nd (.int .i64 (.ofNat 0)) (nd (.str 2 11822) (nd (.int .i64 (.ofNat 16)) (lf (.int .i64 (.ofNat 4))) .nil) (lf (.int .i64 (.ofNat 0)))) (nd (.int .i64 (.ofNat 1)) (nd (.int .i64 (.ofNat 15)) (lf (.int .i64 (.ofNat 71))) .nil) (lf (.str 2 28783)))) (nd (.int .i64 (.ofNat 9)) (nd (.int .i64 (.ofNat 8)) (nd (.str 5 500035838278) (lf (.int .i64 (.ofNat 0))) .nil) (lf (.int .i64 (.ofNat 15)))) lw))) (nd (.str 1 123) (nd (.int .i64 (.ofNat 0)) (nd (.int .i64 (.ofNat 7)) (nd (.int .i64 (.ofNat 7)) uB (lf (.int .i64 (.ofNat 1)))) (nd (.int .i64 (.ofNat 0)) (nd (.int .i64 (.ofNat 2)) (lf (.str 5 500035838278)) .nil) (lf (.int .i64 (.ofNat 20))))) (nd (.str 7 28542640894207341) (nd (.int .i64 (.ofNat 1)) (nd (.int .i64 (.ofNat 13)) (lf (.int .i64 (.ofNat 53))) .nil) (lf (.str 2 13873))) (nd (.int .i64 (.ofNat 21)) OU (lf (.int .i64 (.ofNat 4)))))) (nd (.int .i64 (.ofNat 3)) (nd (.int .i64 (.ofNat 2)) (nd (.int .i64 (.ofNat 22)) y97 (lf (.int .i64 (.ofNat 1)))) (nd (.int .i64 (.ofNat 9)) (nd (.str 1 56) (lf (.int .i64 (.ofNat 0))) .nil) (lf (.int .i64 (.ofNat 19))))) (nd (.int .i64 (.ofNat 0)) (nd (.str 2 11822) (nd (.int .i64 (.ofNat 15)) (lf (.int .i64 (.ofNat 4))) .nil) (lf (.int .i64 (.ofNat 5)))) (nd (.int .i64 (.ofNat 4)) (lf (.int .i64 (.ofNat 16))) (lf (.str 1 51))))))) (nd (.int .i64 (.ofNat 15)) (nd (.int .i64 (.ofNat 0)) (nd (.int .i64 (.ofNat 3)) (nd (.int .i64 (.ofNat 4)) (nd (.int .i64 (.ofNat 11)) y97 (lf (.int .i64 (.ofNat 4)))) (nd (.int .i64 (.ofNat 8)) uB (lf (.int .i64 (.ofNat 3))))) (nd (.int .i64 (.ofNat 0)) (nd (.str 1 58) (nd (.int .i64 (.ofNat 27)) (lf (.int .i64 (.ofNat 4))) .nil) (lf (.int .i64 (.ofNat 0)))) (nd (.int .i64 (.ofNat 4)) (nd (.int .i64 (.ofNat 16)) (lf (.int .i64 (.ofNat 1))) .nil) (lf (.str 1 50))))) (nd (.int .i64 (.ofNat 17)) (nd (.str 3 7889261) (nd (.int .i64 (.ofNat 2)) (nd (.int .i64 (.ofNat 12)) (lf (.int .i64 (.ofNat 47))) .nil) (lf (.str 1 123))) xQ) (nd (.int .i64 (.ofNat 6)) (nd (.int .i64 (.ofNat 0)) ly (lf (.int .i64 (.ofNat 19)))) (nd (.str 3 7037761) (lf (.int .i64 (.ofNat 17))) (lf (.int .i64 (.ofNat 0))))))) (nd (.int .i64 (.ofNat 1)) (nd (.str 1 48) (nd (.int .i64 (.ofNat 4)) (nd (.int .i64 (.ofNat 0)) (nd (.int .i64 (.ofNat 2)) (lf (.str 5 461229747266)) .nil) (lf (.int .i64 (.ofNat 18)))) (nd (.str 1 58) (nd (.int .i64 (.ofNat 14)) (lf (.int .i64 (.ofNat 4))) .nil) (lf (.int .i64 (.ofNat 0))))) (nd (.int .i64 (.ofNat 1)) (nd (.int .i64 (.ofNat 9)) y97 (lf (.int .i64 (.ofNat 2)))) (nd (.int .i64 (.ofNat 10)) (nd (.str 5 465625706101) (lf (.int .i64 (.ofNat 0))) .nil) (lf (.int .i64 (.ofNat 25)))))) (nd (.int .i64 (.ofNat 0)) (nd (.int .i64 (.ofNat 21)) (nd (.int .i64 (.ofNat 7)) (nd (.str 5 228492391734) (lf (.int .i64 (.ofNat 0))) .nil) (lf (.int .i64 (.ofNat 3)))) nH) (nd (.str 1 58) (nd (.int .i64 (.ofNat 2)) (nd (.int .i64 (.ofNat 15)) (lf (.int .i64 (.ofNat 61))) .nil) (lf (.str 1 59))) (nd (.int .i64 (.ofNat 13)) (lf (.int .i64 (.ofNat 200))) (lf (.int .i64 (.ofNat 4))))))))))))) .nil))
def UM:T Ab:=no .nil (no .nil (no sM .nil))
def Ry:T AV:=nd (.int .i64 (.ofNat 10)) (lf (.int .i64 (.ofNat 0))) (lf (.int .i64 (.ofNat 0)))
def RO:T AV:=nd (.int .i64 (.negSucc 0)) (lf (.str 0 0)) .nil
def Ru:T AV:=nd (.int .i64 (.ofNat 1)) (nd (.str 5 495622842726) (lf (.int .i64 (.ofNat 0))) .nil) (nd (.int .i64 (.negSucc 0)) (lf (.int .i64 (.ofNat 0))) .nil)
def kP:T Ab:=no (no .nil (no .nil (no .nil (no (lf (.cells 1 (lf (.ptr 735 0)))) .nil)))) .nil
def Xd:T AV:=nd (.bool false) (lf (.int .i64 (.ofNat 0))) .nil
def tM:T AV:=nd .slice0 (lf (.int .i64 (.ofNat 0))) .nil
def iu:T AV:=nd (.str 0 0) (lf (.str 0 0)) .nil
def XJ:T AV:=nd (.int .i64 (.ofNat 1)) (lf (.int .i64 (.ofNat 0))) .nil
def Dz:T AV:=nd (.int .i64 (.ofNat 0)) (lf (.int .i64 (.ofNat 0))) .nil
def jY:T Ab:=no .nil (no (no .nil (no (no (lf (.cells 45 (nd (.str 6 125779768604014) (nd (.int .i64 (.ofNat 1)) (nd (.bool false) (nd (.int .i64 (.ofNat 0)) (nd (.str 4 1702521203) (lf (.int .i64 (.ofNat 4))) .nil) (nd .slice0 (lf (.str 0 0)) .nil)) (nd (.str 0 0) Xd tM)) (nd (.int .i64 (.ofNat 0)) (nd (.str 0 0) (nd (.int .i64 (.ofNat 16)) (lf (.bool false)) .nil) iu) (nd (.int .i64 (.ofNat 0)) (nd (.int .i64 (.ofNat 512)) (lf (.int .i64 (.ofNat 0))) .nil) (lf (.int .i64 (.ofNat 0)))))) (nd (.int .i64 (.ofNat 16)) (nd (.bool false) (nd .slice0 XJ iu) (nd .slice0 Dz Dz)) (nd (.int .i64 (.ofNat 65535)) (nd (.str 0 0) (nd (.bool false) (lf (.bool false)) .nil) (nd (.str 0 0) (lf .slice0) .nil)) (nd (.int .i64 (.ofNat 0)) (nd (.int .i64 (.ofNat 0)) (lf (.slice 1184 0 1 2)) .nil) (lf (.str 4 1635017060)))))))) .nil) .nil)) .nil)
def io:T Ab:=no (no (no .nil (no (no .nil (no (no (lf (.cells 2 (nd (.str 4 1702521203) (lf (.int .i64 (.ofNat 1))) .nil))) .nil) .nil)) .nil)) .nil) .nil
def ac:T Ab:=no io .nil
def ux:T AV:=nd (.int .i64 (.ofNat 1)) (lf (.int .i64 (.ofNat 2))) .nil
def ip:T AV:=nd (.int .i64 (.ofNat 6)) (lf (.int .i64 (.ofNat 3))) (lf (.str 5 500035838278))
def tX:T AV:=nd (.str 5 461229747266) (lf (.int .i64 (.ofNat 1))) (lf (.int .i64 (.negSucc 0)))
def mR:T AV:=nd (.int .i64 (.ofNat 3)) (lf (.str 3 7037761)) .nil
def i6:T AV:=nd (.int .i64 (.ofNat 1)) (lf (.int .i64 (.ofNat 14))) .nil
def od:T AV:=nd (.int .i64 (.ofNat 9)) (lf (.str 4 1635017060)) (lf (.int .i64 (.ofNat 3)))
def ii:T AV:=nd (.int .i64 (.ofNat 9)) (lf (.int .i64 (.ofNat 9))) .nil
def kU:T Ab:=no (no kP .nil) .nil
def n4:T AV:=nd (.int .i64 (.ofNat 1)) (lf (.int .i64 (.negSucc 0))) (lf (.int .i64 (.ofNat 16)))
def yl:T AV:=nd (.str 4 1702521203) (lf (.int .i64 (.ofNat 2))) (lf (.int .i64 (.ofNat 1)))
def i7:T AV:=nd (.int .i64 (.ofNat 3)) (nd (.int .i64 (.negSucc 0)) (lf (.int .i64 (.ofNat 11))) (lf (.int .i64 (.ofNat 3)))) yl
def vz:T AV:=nd (.int .i64 (.ofNat 0)) tX (nd (.int .i64 (.ofNat 8)) (lf (.int .i64 (.ofNat 3))) (lf (.str 6 121424956188018)))
def sy:T AV:=nd (.int .i64 (.ofNat 3)) (lf (.str 3 7037761)) (lf (.int .i64 (.ofNat 3)))
def i5:T AV:=nd (.int .i64 (.ofNat 0)) (lf (.int .i64 (.ofNat 12))) (lf (.int .i64 (.ofNat 3)))
def mT:T AV:=nd (.int .i64 (.ofNat 7)) (lf (.int .i64 (.ofNat 9))) (lf (.str 4 1701080931))
def u7:T AV:=nd (.int .i64 (.ofNat 4)) (nd (.int .i64 (.ofNat 1)) (lf (.int .i64 (.ofNat 2))) (lf (.int .i64 (.ofNat 15)))) (nd (.int .i64 (.ofNat 3)) (lf (.str 6 125779768604014)) (lf (.int .i64 (.ofNat 3))))
def tz:T AV:=nd (.str 6 125779768604014) (lf (.int .i64 (.ofNat 2))) (lf (.int .i64 (.ofNat 0)))
def kn:T AV:=nd (.str 0 0) (lf (.bool false)) (lf .slice0)
def mb:T AV:=nd (.str 0 0) (lf (.int .i64 (.ofNat 0))) (lf (.str 0 0))
def mM:T AV:=nd .slice0 (lf (.int .i64 (.ofNat 0))) (lf (.int .i64 (.ofNat 0)))
def wn:T AV:=nd (.bool false) (nd .slice0 (lf (.int .i64 (.ofNat 5))) (lf (.str 0 0))) mM
def eP:T AV:=nd (.str 0 0) (lf (.bool false)) (lf (.str 0 0))
def mf:T Ab:=no (no .nil (no .nil (no .nil (no (lf (.cells 30 (nd (.str 4 1701080931) (nd (.int .i64 (.ofNat 1)) (nd (.bool false) (nd (.int .i64 (.ofNat 0)) (lf (.str 6 121424956188018)) (lf .slice0)) kn) (nd (.int .i64 (.ofNat 0)) mb (nd (.int .i64 (.ofNat 0)) (lf (.int .i64 (.ofNat 200))) (lf (.int .i64 (.ofNat 0)))))) (nd (.int .i64 (.ofNat 16)) wn (nd (.int .i64 (.ofNat 8)) eP Dz))))) .nil)))) .nil
def oQ:T AV:=nd (.int .i64 (.ofNat 3)) (lf (.int .i64 (.ofNat 4))) .nil
def pG:T AV:=nd (.int .i64 (.ofNat 6)) oQ (lf (.str 5 500035838278))
def gV:T AV:=nd (.int .i64 (.ofNat 1)) (lf (.int .i64 (.ofNat 14))) (lf (.int .i64 (.ofNat 9)))
def vE:T AV:=nd (.int .i64 (.ofNat 9)) (nd (.str 4 1635017060) (lf (.int .i64 (.negSucc 0))) .nil) (lf (.int .i64 (.ofNat 3)))
def hP:T AV:=nd (.int .i64 (.ofNat 1)) (lf (.int .i64 (.ofNat 0))) (lf (.int .i64 (.ofNat 18)))
def vT:T AV:=nd (.int .i64 (.ofNat 9)) (lf (.int .i64 (.ofNat 9))) (lf (.str 6 127978942194000))
def Sp:T AV:=nd (.int .i64 (.ofNat 0)) (lf (.int .i64 (.ofNat 0))) (lf (.int .i64 (.ofNat 0)))
def ck:T Ab:=no .nil (no (no (no .nil (no .nil (lf (.cells 30 (nd (.str 2 28783) (nd (.int .i64 (.ofNat 1)) (nd (.bool false) (nd (.int .i64 (.ofNat 0)) (lf (.str 4 2036625250)) (lf .slice0)) (nd (.str 0 0) (lf (.bool false)) (lf (.slice 1821 0 4 3)))) (nd (.int .i64 (.ofNat 1)) (nd (.str 0 0) (lf (.int .i64 (.ofNat 0))) (lf (.str 2 28783))) Sp)) (nd (.int .i64 (.ofNat 16)) (nd (.bool false) (nd .slice0 (lf (.int .i64 (.ofNat 9))) (lf (.str 0 0))) mM) (nd (.int .i64 (.ofNat 5)) eP Dz))))))) .nil) .nil)
def kh:T Ab:=no .nil (no (no .nil (no (no (no .nil (lf (.cells 75 (nd (.int .i64 (.ofNat 2)) (nd (.int .i64 (.ofNat 9)) (nd (.int .i64 (.ofNat 0)) (nd (.str 4 1701603686) pG (nd (.int .i64 (.ofNat 1)) (nd (.int .i64 (.negSucc 0)) (lf (.int .i64 (.ofNat 3))) .nil) (lf (.int .i64 (.ofNat 16))))) (nd (.int .i64 (.ofNat 3)) (nd (.int .i64 (.negSucc 0)) (nd (.int .i64 (.ofNat 11)) (lf (.str 2 28783)) .nil) (lf (.int .i64 (.ofNat 3)))) yl)) (nd (.int .i64 (.ofNat 3)) (nd (.int .i64 (.ofNat 0)) (nd (.str 5 461229747266) (nd (.int .i64 (.ofNat 1)) (lf (.int .i64 (.ofNat 19))) .nil) (lf (.int .i64 (.negSucc 0)))) (nd (.int .i64 (.ofNat 8)) oQ (lf (.str 6 121424956188018)))) (nd (.int .i64 (.ofNat 0)) (nd (.int .i64 (.ofNat 3)) (nd (.str 3 7037761) (lf (.int .i64 (.ofNat 0))) .nil) (lf (.int .i64 (.ofNat 3)))) gV))) (nd (.str 7 32777976897693010) (nd (.int .i64 (.negSucc 0)) (nd (.int .i64 (.ofNat 0)) vE (nd (.int .i64 (.ofNat 0)) (nd (.int .i64 (.ofNat 12)) (lf (.str 4 2036625250)) .nil) (lf (.int .i64 (.ofNat 3))))) (nd (.str 4 1701080941) (nd (.int .i64 (.ofNat 7)) Wh (lf (.str 4 1701080931))) hP)) (nd (.int .i64 (.ofNat 3)) (nd (.int .i64 (.ofNat 4)) (nd (.int .i64 (.ofNat 1)) (nd (.int .i64 (.ofNat 2)) (lf (.int .i64 (.ofNat 3))) .nil) (lf (.int .i64 (.ofNat 15)))) (nd (.int .i64 (.ofNat 3)) (nd (.str 6 125779768604014) (lf (.int .i64 (.ofNat 1))) .nil) (lf (.int .i64 (.ofNat 3))))) (nd (.int .i64 (.ofNat 1)) (nd (.str 6 125779768604014) (nd (.int .i64 (.ofNat 2)) (lf (.int .i64 (.ofNat 20))) .nil) (lf (.int .i64 (.ofNat 0)))) vT))))))) .nil) .nil)) .nil)
def pE:T Ab:=no (no (no (no .nil (no .nil (lf (.cells 12 (nd (.int .i64 (.ofNat 1)) (nd (.int .i64 (.ofNat 2)) (nd (.int .i64 (.ofNat 3)) (lf (.int .i64 (.ofNat 4))) (lf (.str 5 500035838278))) (nd (.str 5 461229747266) (lf (.int .i64 (.ofNat 5))) .nil)) (nd (.str 7 32777976897693010) mR (nd (.int .i64 (.ofNat 4)) (lf (.int .i64 (.ofNat 5))) .nil))))))) .nil) .nil) .nil
def dg:T AV:=nd (.int .i64 (.ofNat 0)) (lf (.str 0 0)) .nil
def uJ:T Ab:=no .nil (no (no (no .nil (no .nil (lf (.cells 30 (nd (.str 4 1701603686) (nd (.int .i64 (.ofNat 5)) (nd (.bool false) (nd (.int .i64 (.ofNat 0)) (lf (.str 4 1701080941)) (lf .slice0)) kn) (nd (.int .i64 (.ofNat 0)) mb (nd (.int .i64 (.ofNat 0)) (lf (.int .i64 (.ofNat 16))) (lf (.int .i64 (.ofNat 0)))))) (nd (.int .i64 (.ofNat 0)) wn (nd (.int .i64 (.ofNat 128)) eP Dz))))))) .nil) .nil)
def ng:T Ab:=no jY pE
def xr:T Ab:=no .nil (no .nil ng)
def b7:T Ab:=no (no (no (no .nil (no (no .nil (no .nil (lf (.cells 10 (nd (.str 7 32777976897693010) (nd (.slice 915 0 2 15) (nd (.slice 1197 0 3 15) (lf (.slice 1490 0 2 15)) .nil) (nd (.slice 1310 0 1 15) (lf (.slice 1839 0 2 15)) .nil)) (nd (.str 5 461229747266) (nd (.str 3 7037761) (lf (.str 6 127978942194000)) .nil) (lf (.str 5 500035838278)))))))) .nil)) .nil) mf) .nil
def gU:T Ab:=no (no .nil (no (lf (.cells 15 (nd (.str 6 125779768604014) (nd (.int .i64 (.ofNat 1)) (nd (.bool false) (lf (.int .i64 (.ofNat 0))) (lf (.str 0 0))) (nd (.int .i64 (.ofNat 0)) (lf (.str 0 0)) (lf (.int .i64 (.ofNat 0))))) (nd (.int .i64 (.ofNat 16)) (nd (.bool false) (lf .slice0) (lf .slice0)) (nd (.int .i64 (.ofNat 65535)) (lf (.str 0 0)) (lf (.int .i64 (.ofNat 0)))))))) .nil)) .nil
def n5:T Ab:=no (no (no .nil ck) .nil) (no uJ .nil)
def oU:T Ab:=no .nil (no (no gU .nil) .nil)
def fy:AV:=.str 24 1229098986481109979246760173774879750559860365092310967667
def ey:AV:=.str 11 122570967502344540451008370
def cB:AV:=.str 15 562744202170581634498970250853315699
def xc:AV:=.str 30 789533352409273375229327438859413721772607407619008601618563932820436083
def uN:T AV:=lf xc
def lz:AV:=.str 37 50422771405094346315967137660349769906106814241767673640040480709312337762094589791270003
def s8:T AV:=lf lz
def Yn:AV:=.str 33 13246171592574499840092527255662415629440327117341997935721940405941934907290739
def Fq:AV:=.str 16 144062515755668893821575039809493234803
def fS:AV:=.str 34 3005431378191372527273977002375776235204169338404008514957186817986463882916754547
def qa:T AV:=lf fS
def WX:AV:=.str 15 265464928953869816130873558310416227
def cI:AV:=.str 11 138296484283042423840206706
def j7:AV:=.str 37 50422771405094346233577961052706535100125123613423833869086332475582389266494340609700979
def fM:T AV:=lf j7
def eD:AV:=.str 51 126855000315515036779351538493944184116636336978109858067731874654657623036564341789607337409718587076950303785330640516211
def tJ:T Ab:=no (no (no (lf (.cells 14 (nd fy (nd ey (nd cB uN s8) (nd Yn (lf Fq) qa)) (nd WX (nd (.str 10 521331526989781162620019) (lf cI) fM) (nd eD (lf (.str 10 479143318045624222446707)) .nil))))) .nil) .nil) .nil
def rJ:T Ab:=no (no .nil (no .nil (no .nil tJ))) .nil
def kx:T Ab:=no (no (lf (.cells 6 (nd (.str 4 1885697139) (nd (.str 4 1852141647) (lf (.str 4 1684956531)) (lf (.str 6 125779919729250))) (nd (.str 3 6710863) (lf (.str 4 1735289168)) .nil)))) .nil) .nil
def kf:T Ab:=no (no (no .nil kx) .nil) .nil
def tZ:T Ab:=no .nil (no (no rJ (no .nil (no kf .nil))) .nil)
def oI:T Ab:=no (no (no .nil (no .nil (no .nil (no (no (no (lf (.cells 3 (nd (.slice 2273 0 14 1) (lf (.int .i64 (.ofNat 8))) (lf (.slice 2329 6 0 1))))) .nil) .nil) .nil)))) .nil) .nil
def vh:T Ab:=no .nil (no oI .nil)
def yf:T Ab:=no (no (no (lf (.cells 4 (nd (.str 7 31084746137363827) (nd (.str 6 126870807932788) (lf (.str 1 50)) .nil) (lf (.str 7 28259039672824431))))) .nil) .nil) .nil
def Oz:T AV:=nd (.int .i64 (.ofNat 0)) (lf (.bool false)) .nil
def pN:T Ab:=lf (.cells 6 (nd (.str 3 6710863) (nd (.bool true) (lf (.str 4 1852141647)) (lf (.int .i64 (.ofNat 0)))) Oz))
def ro:T Ab:=no pN .nil
def v6:T Ab:=no (no ro .nil) .nil
def nB:T Ab:=no .nil (no .nil v6)
def ZW:T AV:=nd (.int .i64 (.ofNat 0)) (lf (.int .i64 (.ofNat 0))) (lf (.str 0 0))
def lC:T Ab:=lf (.cells 27 (nd (.str 3 6710863) (nd (.str 4 1852141647) (nd (.str 7 32760384594014019) ZW (nd (.int .i64 (.ofNat 1)) (lf (.str 3 6710863)) .nil)) (nd (.str 0 0) (nd (.str 4 1852141647) (lf (.int .i64 (.ofNat 1))) (lf (.int .i64 (.ofNat 0)))) (nd (.str 6 125779919729250) (lf (.str 4 1735289168)) .nil))) (nd (.int .i64 (.ofNat 1)) (nd (.str 6 125779919729250) (nd (.int .i64 (.ofNat 0)) (lf (.int .i64 (.ofNat 2))) (lf (.int .i64 (.ofNat 0)))) (nd (.str 7 29400294205060432) (lf (.int .i64 (.ofNat 1))) .nil)) (nd (.int .i64 (.ofNat 0)) (nd (.str 4 1852141647) (lf (.str 4 1852141647)) (lf (.int .i64 (.ofNat 0)))) (nd (.str 5 474450192499) (lf (.str 6 125779919729250)) .nil)))))
def tE:T Ab:=no lC .nil
def iI:T Ab:=no tE .nil
def W3:T Ab:=no (no (no .nil (no (no (no .nil iI) .nil) .nil)) .nil) .nil
def iJ:T Ab:=lf (.cells 2 (nd (.str 5 474450192499) (lf (.int .i64 (.ofNat 3))) .nil))
def g8:T Ab:=no iJ .nil
def oB:T Ab:=no (no g8 .nil) .nil
def qo:T Ab:=no .nil (no .nil (no .nil oB))
def yN:T AV:=nd (.str 4 1702259020) (lf (.str 7 28559167692432754)) (lf (.str 6 111477645534564))
def jp:T Ab:=no (no (lf (.cells 6 (nd (.str 4 1885697139) yN (nd (.str 4 1701602377) (lf (.str 4 1735289168)) .nil)))) .nil) .nil
def tS:T Ab:=lf (.cells 6 (nd (.str 4 1701602377) (nd (.bool true) (lf (.str 4 1702259020)) (lf (.int .i64 (.ofNat 0)))) Oz))
def jR:T Ab:=no tS .nil
def uF:T Ab:=no jR .nil
def yK:T Ab:=no .nil (no .nil (no (no (no .nil uF) .nil) .nil))
def wK:T Ab:=lf (.cells 27 (nd (.str 4 1701602377) (nd (.str 4 1702259020) (nd (.str 7 32760384594014019) ZW (nd (.int .i64 (.ofNat 2)) (lf (.str 4 1701602377)) .nil)) (nd (.str 0 0) (nd (.str 4 1702259020) (lf (.int .i64 (.ofNat 0))) (lf (.int .i64 (.ofNat 0)))) (nd (.str 6 111477645534564) (lf (.str 4 1735289168)) .nil))) (nd (.int .i64 (.ofNat 2)) (nd (.str 6 111477645534564) Sp (nd (.str 7 29400294205060432) (lf (.int .i64 (.ofNat 2))) .nil)) (nd (.int .i64 (.ofNat 0)) (nd (.str 4 1702259020) (lf (.str 4 1702259020)) (lf (.int .i64 (.ofNat 0)))) (nd (.str 0 0) (lf (.str 6 111477645534564)) .nil)))))
def f8:T Ab:=no wK .nil
def pu:T Ab:=no f8 .nil
def kC:T Ab:=no (no .nil (no (no .nil pu) .nil)) .nil
def qw:T Ab:=no .nil (no .nil nB)
def pL:T Ab:=no (no (no (no .nil (no .nil (no (no .nil (no (no (lf (.cells 8 (nd (.str 6 111477645534564) (nd (.slice 2297 0 2 3) (nd (.slice 2341 0 3 9) (lf (.slice 2398 0 3 9)) .nil) (lf (.slice 2358 0 2 3))) (nd (.slice 2286 0 1 2) (lf (.str 6 125779919729250)) (lf .slice0))))) .nil) .nil)) .nil))) .nil) .nil) .nil
def oH:T Ab:=no yK (no qo kC)
def gc:T Ab:=no (no .nil (no (no (no (no .nil (no .nil (no (no .nil (no (no (lf (.cells 4 (nd (.str 6 126870807932788) (nd (.slice 2400 0 2 4) (lf (.int .i64 (.ofNat 2))) .nil) (lf (.int .i64 (.ofNat 1)))))) .nil) .nil)) .nil))) .nil) qw) W3)) (no pL (no (no (no (no .nil (no .nil (no (no .nil (no (no (lf (.cells 1 (lf (.func (.func 141) [] [(.ptr 2401 0)])))) .nil) .nil)) .nil))) .nil) .nil) oH))
def Y8:AV:=.tuple [(.int .i64 (.ofNat 0)),(.int .i64 (.ofNat 0))]
def Rl:AV:=.str 56 116864267180698698643752648497306376112859592516620202478445608736732946888651393269049958926881539486141964259179214259175678625804870
def wG:T Ab:=no (no (no (no .nil (no .nil (no (no .nil (no (lf (.cells 10 (nd (.str 7 32496501869798497) (nd (.int .i64 (.ofNat 107)) (nd .slice0 (lf .slice0) .nil) (nd (.str 5 500069396323) (lf .slice0) .nil)) (nd .slice0 (nd .slice0 (lf .slice0) .nil) (lf (.int .i64 (.ofNat 3))))))) .nil)) .nil))) .nil) .nil) .nil
def ml:T Ab:=no wG .nil
def hZ:T Ab:=no (no (no (no (no .nil (no .nil (no (no .nil (no (lf (.cells 5 (nd (.str 4 1684104530) (nd (.int .i64 (.ofNat 0)) (lf .slice0) .nil) (nd .slice0 (lf (.slice 2752 0 2 5)) .nil)))) .nil)) .nil))) .nil) .nil) .nil) .nil
def ry:T Ab:=no (no wG (no (no (no (no .nil (no .nil (no (no .nil (no (lf (.cells 15 (nd (.str 4 1953066613) (nd (.int .i64 (.ofNat 1)) (nd .slice0 (lf .slice0) (lf (.int .i64 (.ofNat 0)))) (nd (.str 8 7957695015192261990) (lf .slice0) (lf .slice0))) (nd .slice0 (nd .slice0 (lf .slice0) (lf .slice0)) (nd (.int .i64 (.ofNat 3)) (lf (.str 4 2036625250)) (lf (.slice 2754 0 1 5))))))) .nil)) .nil))) .nil) .nil) .nil)) hZ
def ZJ:AV:=.str 23 4705386944637717802785260240234964564594563114673071475
def IT:AV:=.str 11 140756726106119752163028850
def Xr:AV:=.str 22 43572384273628158371933270086776116483342853709591667
def XZ:T AV:=lf Xr
def Vs:T AV:=lf (.str 10 573536169347174686094451)
def f9:T AV:=nd Fq XZ Vs
def Yj:AV:=.str 50 495527344982480789075948978643160627204190777408178547382419530467654326064377984491085747858263852220296062639639196787
def IU:AV:=.str 11 138296687409759533759491954
def XD:AV:=.str 34 3451344881672156290479906278832458027557479919783267023944255342655693161274635379
def fC:T AV:=lf XD
def ep:AV:=.str 15 265465319516745897862235284097560419
def ZP:AV:=.str 18 4199467829910977293048286298922484762768499
def nA:AV:=.str 36 222234208393735909272284533366980854056666229893414665435701366902539228633308535813235
def fP:T AV:=lf nA
def ZO:AV:=.str 37 57903958570308207271140131299728376238045687260329179188942941680853728428798375180465267
def Vz:T AV:=lf ZO
def WK:AV:=.str 36 222234208393735909272284533366980854056666229893414665435701366902815712792600297960563
def Ku:AV:=.str 17 36880004033451260959007361999086960079987
def Vc:T AV:=lf Ku
def vm:AV:=.str 36 226187338165266434652891137889563969679865965860660856206808365940835963129707442304115
def mJ:T AV:=lf vm
def pb:T Ab:=no (no .nil (no (no (no (no (no (no (no (no (lf (.cells 15 (nd ZJ (nd IT f9 (nd Yj (lf IU) fC)) (nd ep (nd ZP fP Vz) (nd WK Vc mJ))))) .nil) .nil) .nil) .nil) .nil) .nil) .nil) .nil)) .nil
def m4:T Ab:=no (no (no (no (lf (.cells 4 (nd (.str 7 31084746137363827) (nd (.str 5 495622906222) (lf (.str 1 49)) .nil) (lf (.str 7 28259039672824431))))) .nil) .nil) .nil) .nil
def mW:T Ab:=lf (.cells 6 (nd (.str 4 1701602377) (nd (.bool true) (lf (.str 4 1953063255)) (lf (.int .i64 (.ofNat 50)))) Oz))
def iF:T Ab:=no mW .nil
def tQ:T Ab:=no (no (no (no (no iF .nil) .nil) .nil) .nil) .nil
def tN:T Ab:=no .nil tQ
def gd:Ab:=.cells 2 (nd (.str 5 495622648436) (lf (.int .i64 (.ofNat 3))) .nil)
def ra:T Ab:=lf gd
def bf:T Ab:=no ra .nil
def bJ:T Ab:=no (no (no (no (no (no bf .nil) .nil) .nil) .nil) .nil) .nil
def pP:T Ab:=no (no .nil bJ) .nil
def yF:T AV:=nd (.int .i64 (.ofNat 0)) (lf (.str 6 125780104471923)) .nil
def il:T AV:=nd (.int .i64 (.ofNat 2)) (nd (.str 4 1701602377) (lf (.int .i64 (.ofNat 0))) .nil) (lf (.str 4 1701602377))
def Xc:T AV:=nd (.str 4 1953063255) Dz (lf (.int .i64 (.ofNat 0)))
def nO:T AV:=nd (.int .i64 (.ofNat 1)) dg (lf (.int .i64 (.ofNat 0)))
def up:T AV:=nd (.str 6 127978942194000) (lf (.int .i64 (.ofNat 3))) (lf (.str 4 1701602377))
def Ug:T AV:=nd (.str 4 1953063255) (lf (.int .i64 (.ofNat 0))) .nil
def yc:T AV:=nd (.int .i64 (.ofNat 0)) (nd (.str 4 1701602377) Ug (lf (.int .i64 (.ofNat 0)))) (nd (.str 0 0) (lf (.str 0 0)) (lf (.str 6 127978942194000)))
def gj:T Ab:=lf (.cells 36 (nd (.str 4 1701602377) (nd (.str 4 1953063255) (nd (.str 6 127978942194000) (nd (.int .i64 (.ofNat 2)) yF (lf (.str 0 0))) il) (nd (.str 5 495622648436) Xc (nd (.str 6 125780104471923) (lf (.str 0 0)) (lf (.int .i64 (.ofNat 2)))))) (nd (.int .i64 (.ofNat 1)) (nd (.str 6 125780104471923) nO up) yc)))
def sK:T Ab:=no gj .nil
def YZ:T Ab:=no (no (no (no sK .nil) .nil) .nil) .nil
def nw:T Ab:=no .nil (no .nil (no (no .nil YZ) .nil))
def Sq:T AV:=nd (.str 4 1701602377) (lf (.str 6 127978942194000)) .nil
def vi:T Ab:=no (no (no (lf (.cells 6 (nd (.str 4 1885697139) (nd (.str 4 1701602377) (lf (.str 7 28559167692432754)) (lf (.str 6 125780104471923))) Sq))) .nil) .nil) .nil
def kL:T Ab:=no (no (no (no (no (no (no (no (lf (.cells 4 (nd (.str 0 0) tM (lf (.int .i64 (.ofNat 0)))))) .nil) .nil) .nil) .nil) .nil) .nil) .nil) .nil
def lu:T Ab:=no (no (no .nil (no (no (no (no (lf (.cells 8 (nd (.str 6 128017496632419) (nd (.slice 4129 0 2 3) (nd (.slice 4184 0 4 9) (lf (.slice 4241 0 3 9)) .nil) (lf (.slice 4201 0 2 3))) (nd (.slice 4117 0 1 2) (lf (.str 6 125780104471923)) (lf .slice0))))) .nil) .nil) .nil) .nil)) .nil) .nil
def nr:T Ab:=no .nil (no (no .nil lu) .nil)
def jr:T AV:=nd (.str 6 127978942194000) ZW (nd (.int .i64 (.ofNat 1)) (lf (.str 4 2037609794)) .nil)
def vY:T AV:=nd (.str 4 2037609794) (lf (.int .i64 (.ofNat 0))) (lf (.int .i64 (.ofNat 0)))
def wt:T AV:=nd (.str 6 127978942194000) (lf (.int .i64 (.ofNat 2))) .nil
def og:T AV:=nd (.str 5 521375147346) (lf (.str 4 2037609794)) (lf (.int .i64 (.ofNat 0)))
def tn:T Ab:=lf (.cells 27 (nd (.str 5 521375147346) (nd (.str 4 2037609794) jr (nd (.str 0 0) vY (nd (.str 6 128017496632419) (lf (.str 6 127978942194000)) .nil))) (nd (.int .i64 (.ofNat 2)) (nd (.str 6 128017496632419) Sp wt) (nd (.int .i64 (.ofNat 0)) og (nd (.str 0 0) (lf (.str 6 128017496632419)) .nil)))))
def gE:T Ab:=no tn .nil
def wI:T Ab:=no (no (no gE .nil) .nil) .nil
def m3:T Ab:=no tN (no (no (no .nil wI) .nil) .nil)
def rN:T Ab:=lf (.cells 6 (nd (.str 5 521375147346) (nd (.bool true) (lf (.str 4 2037609794)) (lf (.int .i64 (.ofNat 0)))) Oz))
def yE:T Ab:=no rN .nil
def gn:T Ab:=no (no (no (no yE .nil) .nil) .nil) .nil
def SC:T Ab:=no .nil gn
def Vv:T AV:=nd (.str 4 2037609794) (lf (.str 6 127978942194000)) .nil
def sR:T Ab:=no (no (no (lf (.cells 6 (nd (.str 4 1885697139) (nd (.str 4 2037609794) (lf (.str 7 28559167692432754)) (lf (.str 6 128017496632419))) Vv))) .nil) .nil) .nil
def l5:T Ab:=no nw .nil
def eK:Nat:=173163417714637605319065650220222656886188687460891828192703244208413503839405194901262348278480208525771823382795325729255001022937179068340161631981912517238202047636207904233344677069515209843531490390413876547262844009377811380677363606930433908213768023512037422352786351247888763083973062460374057298546790832698244506363417497501276352491822091898310803701130279633310096029339321239903027645705613004588742048122873017651700061628610758336715275496756907692243114818203039961038101292534604794301388927810153884867534766790924364801613588704613851108163227297363906275669165346662285551455705764440776515683766578129006932307843678803067196600841751273228919684221077489881791441931373787342235273284534568203812723210545351995872508226971011639033526217054953368370343446259302371397976227908535527385518926337470859824454210355301772003644431011217259289656666990344487263556643041154629288720939161913380320094576665971
def Yp:T Ab:=no .nil SC
def tq:T Ab:=no m3 (no Yp .nil)
def tA:T Ab:=no (no nr (no tq pP)) (no l5 .nil)
def xD:T Ab:=no (no tQ .nil) .nil
def vQ:T Ab:=no (no YZ .nil) .nil
def wz:T Ab:=no (no wI .nil) .nil
def qI:T Ab:=no gn .nil
def wl:T Ab:=no qI .nil
def mD:T Ab:=no (no (no (no (no .nil (no (no (no (no (no (no (no (no (lf (.cells 8 (nd (.str 6 128017496632419) (nd (.slice 8195 0 2 3) (nd (.slice 8213 0 4 9) (lf (.slice 8216 0 3 9)) .nil) (lf (.slice 8202 0 2 3))) (nd (.slice 8208 0 1 2) (lf (.str 6 125780104471923)) (lf .slice0))))) .nil) .nil) .nil) .nil) .nil) .nil) .nil) .nil)) .nil) (no (no xD .nil) .nil)) (no .nil (no (no .nil (no vQ .nil)) .nil))) (no (no (no (no .nil (no bJ .nil)) (no .nil (no (no wz .nil) .nil))) .nil) (no (no .nil (no (no wl .nil) .nil)) .nil))
def yD:T Ab:=no (no (no (lf (.cells 2 (nd (.str 4 1701605234) (lf (.str 6 128017496632419)) .nil))) .nil) .nil) .nil
def jd:T Ab:=no .nil (no yD .nil)
def yu:T Ab:=lf (.cells 3 (nd (.str 5 435744240755) (lf (.str 4 1701602377)) (lf (.str 5 465491093862))))
def xk:T Ab:=no (no (no yu .nil) .nil) .nil
def mh:T Ab:=no .nil (no xk .nil)
def oe:T AV:=nd (.str 4 1684956531) (lf (.str 5 495622648436)) .nil
def dT:T AV:=nd (.str 4 1852139639) (lf (.str 1 49)) .nil
def gQ:T AV:=nd (.str 4 1953063255) (nd (.str 6 127978942194000) (lf (.str 1 48)) .nil) dT
def Vx:T AV:=nd (.str 4 1953063255) (lf (.str 7 28559167692432754)) (lf (.str 6 125780104471923))
def l7:T Ab:=lf (.cells 4 (nd (.str 4 1885697139) (nd (.str 4 1953063255) (lf (.str 7 32780218601924980)) .nil) (lf (.str 4 1701602377))))
def f4:AV:=.str 211 6149004913015216815021797834624773595092548284934763494847226230078348643471380742394145029761582328276744970509030734801515437279375026063213478780835683631585298824789531173458055145964448180659369724081194404345825734819734739338177695711143386577447697806938042475665569437072505483897489993522554028120457665461513078128668139617644896806344651834994051823875135139602028451374515410948475597844891556219006625076468401545306230984185078435012223329694419876084010496779393813295649651095897586455572338
def xZ:T Ab:=no (no (no (lf (.cells 2 (nd (.str 4 1701605234) (lf (.str 6 125780104471923)) .nil))) .nil) .nil) .nil
def x7:T Ab:=no .nil xZ
def nQ:T Ab:=lf (.cells 3 (nd (.str 5 435744240755) (lf (.str 5 521375147346)) (lf (.str 5 465491093862))))
def l8:T Ab:=no (no (no nQ .nil) .nil) .nil
def qm:T Ab:=lf (.cells 2 (nd (.str 5 435744240755) (lf (.str 4 2037609794)) .nil))
def jX:T Ab:=no (no (no qm .nil) .nil) .nil
def cH:T AV:=nd (.str 5 521375147346) (lf (.str 7 28559167692432754)) (lf (.str 6 128017496632419))
def vR:T Ab:=no (no .nil (no (no (no (lf (.cells 6 (nd (.str 4 1885697139) cH Vv))) .nil) .nil) .nil)) .nil
def pX:T AV:=nd (.str 4 2037609794) (lf (.str 4 1684956531)) (lf (.str 6 128017496632419))
def uL:T AV:=nd (.str 5 521375147346) (lf (.str 6 127978942194000)) .nil
def nb:T Ab:=no (no (no (lf (.cells 6 (nd (.str 4 1885697139) pX uL))) .nil) .nil) .nil
def rS:T Ab:=no (no .nil nb) .nil
def tk:T AV:=nd (.str 10 573536169347174686094451) fC .nil
def rp:AV:=.str 150 7831128228812789680633422091265003453831011448924643081608470575539089847979091832533946872519617365920931979044521149389497973335879500038658492373109354780824951458226642386272481616972642735456063732458808583281232845795105000018030784754636553051888266061719612778808186497226074927890655904214635749067647727634139322516214597908993818054932111335071969138
def oR:T Ab:=no (no (no (no (no .nil rN) .nil) .nil) .nil) .nil
def iH:T Ab:=no oR .nil
def nZ:T Ab:=no iH .nil
def YG:T Ab:=no .nil wl
def ky:T Ab:=no (no (no (no (no (no .nil yE) .nil) .nil) .nil) .nil) .nil
def jV:T Ab:=no ky .nil
def wM:T Ab:=no .nil kL
def Ze:T Ab:=no wM .nil
def YK:AV:=.str 23 4801167915941835856432655824555885569105906743406454131
def X5:AV:=.str 35 868102376538030895594861458464768961158852460521151036858208464463478139080266839155
def d8:AV:=.str 32 51742933782221728300741997865722713449692183186049995722225515855477154870387
def cF:T AV:=nd (.int .i64 (.ofNat 0)) (lf (.str 4 1701602377)) (lf (.str 0 0))
def rZ:T Ab:=lf (.cells 18 (nd (.str 4 1701602377) (nd (.str 3 7041857) (nd (.str 6 127978942194000) Dz (lf (.int .i64 (.ofNat 2)))) (nd (.str 0 0) (nd (.str 3 7041857) (lf (.int .i64 (.ofNat 0))) .nil) (lf (.str 6 125780104471923)))) (nd (.int .i64 (.ofNat 1)) (nd (.str 6 125780104471923) Dz (lf (.str 6 127978942194000))) cF)))
def nE:T Ab:=no rZ .nil
def cT:T Ab:=no (no (no (no (no nE .nil) .nil) .nil) .nil) .nil
def jH:T AV:=nd (.str 4 2037609794) (lf (.int .i64 (.ofNat 0))) .nil
def kK:T AV:=nd (.str 0 0) jH (lf (.str 6 128017496632419))
def YC:T AV:=nd (.int .i64 (.ofNat 0)) (lf (.str 5 521375147346)) (lf (.str 0 0))
def fR:T Ab:=lf (.cells 18 (nd (.str 5 521375147346) (nd (.str 4 2037609794) (nd (.str 6 127978942194000) Dz (lf (.int .i64 (.ofNat 1)))) kK) (nd (.int .i64 (.ofNat 2)) (nd (.str 6 128017496632419) Dz (lf (.str 6 127978942194000))) YC)))
def o0:T Ab:=no fR .nil
def yM:T Ab:=no (no (no (no o0 .nil) .nil) .nil) .nil
def uQ:T Ab:=no (no .nil (no .nil yM)) .nil
def sw:T Ab:=no uQ .nil
def KU:T AV:=nd .slice0 (lf (.str 6 125780104471923)) (lf .slice0)
def xF:T Ab:=no (no (no (no (no (lf (.cells 8 (nd (.str 6 128017496632419) (nd (.slice 4124 0 2 3) (nd (.slice 4151 0 2 9) (lf (.slice 4195 0 2 9)) .nil) (lf (.slice 4168 0 2 3))) KU))) .nil) .nil) .nil) .nil) .nil
def yi:T Ab:=no .nil (no (no (no .nil (no .nil xF)) .nil) .nil)
def Y5:T Ab:=no .nil (no (no SC .nil) .nil)
def g9:T Ab:=lf (.cells 6 (nd (.str 4 1701602377) (nd (.bool true) (lf (.str 3 7041857)) (lf (.int .i64 (.ofNat 0)))) Oz))
def iW:T Ab:=no g9 .nil
def pq:T Ab:=no (no (no (no (no (no iW .nil) .nil) .nil) .nil) .nil) .nil
def Yh:T Ab:=no Y5 (no .nil (no .nil pq))
def aX:Nat:=47492063509213523011233193724283017816746102823199946632390818781462025505473659244846322888736064130736521802322309236057298935894441653359539786868363201589356635276637254313838704068981948604434422692861726098453600413201342836122841989805559880108980305965229581236147250374701674524941528531346475533613007288815002846655205783467247246023490293404713011999253247073531503777010037960723434771754788586780880859999992070834230021309700628066888879911241387221949892376484513121210213175403262498232712059864764226249580654844235971362599389455687069954893224188123316309391106123195763
def kH:T Ab:=no .nil cT
def yJ:T Ab:=no (no (no (no .nil (no .nil kH)) sw) yi) (no Yh .nil)
def xO:T Ab:=no pq .nil
def wj:T Ab:=no .nil (no (no yM .nil) .nil)
def kX:T Ab:=no (no YG .nil) .nil
def x5:T Ab:=no .nil (no (no cT .nil) .nil)
def s9:T Ab:=no (no (no (no .nil (no (no .nil (no (no (no (no (no (no (no (lf (.cells 8 (nd (.str 6 128017496632419) (nd (.slice 8219 0 2 3) (nd (.slice 8222 0 2 9) (lf (.slice 8229 0 2 9)) .nil) (lf (.slice 8226 0 2 3))) KU))) .nil) .nil) .nil) .nil) .nil) .nil) .nil)) .nil)) (no .nil (no .nil xO))) (no .nil (no (no wj .nil) .nil))) (no .nil (no kX (no .nil x5)))
def sF:T Ab:=no .nil (no (no .nil (no (no (no .nil (no .nil (no jd .nil))) .nil) .nil)) .nil)
def vX:T Ab:=no (no (no (no (no .nil (no .nil (no .nil (no mh .nil)))) .nil) .nil) .nil) .nil
def u9:T AV:=nd (.str 4 1701602377) (lf (.str 4 1684956531)) (lf (.str 6 125780104471923))
def qu:AV:=.str 107 214708109308907343526706240483243628558476034307482880097225629694146295952722858960026087038343294652440259211484270562962264499506393156058151992143551093881189093485353354457829691935354344848588439554480779910450524891437397908077042588292788392351788914
def vM:T Ab:=no (no (no .nil (no .nil (no .nil (no (no .nil (no .nil (no .nil (no xZ .nil)))) .nil)))) .nil) .nil
def lm:T Ab:=no .nil (no .nil (no .nil (no (no (no .nil (no .nil (no .nil (no .nil (no l8 .nil))))) .nil) .nil)))
def rO:T Ab:=no .nil (no .nil (no .nil (no .nil (no (no .nil (no .nil (no .nil (no .nil (no jX .nil))))) .nil))))
def ui:AV:=.str 113 61509984662357480550451838500745972137035885642237188309582503420659447037123716030093141751525781390210285931459634741195646392458541204311066862347976448337288308819966990598483229768149659537537939020547050475503078071526940369166770281856093361597358898474567364013938
def wk:T Ab:=no (no (no (no (lf (.cells 4 (nd (.str 7 31084746137363827) (nd (.str 5 495622842726) (lf (.str 1 49)) .nil) (lf (.str 7 28259039672824431))))) .nil) .nil) .nil) .nil
def Yz:AV:=.str 23 4705386944637717802785260240233793270132858852983661939
def WM:AV:=.str 34 3391024908351683182211853768166003508366432109345074106165383205005418230075192435
def Rn:AV:=.str 16 144062515755668893859259754116445992051
def fB:AV:=.str 14 1057256634312405482866449833095011
def pB:AV:=.str 48 7407237842204678213590007061582636963109866039266031516594844392116827056827728743541982392437622198306040222938227
def j8:T AV:=lf pB
def b9:AV:=.str 35 868102376538030895597757147599710471321499286319931197810559766585404926342335919219
def rl:AV:=.str 49 1935654292564716917326054222111822614709718089384650734415149349843287171652926810387757309285664510192752643329586291
def mo:T AV:=lf rl
def cw:AV:=.str 29 3084119187725885405790507467151959916383078235708690062117237294462067
def qe:AV:=.str 38 14823413393998901061508338204142855429956923486311129545921325060908055708625795529795007603
def pU:T AV:=lf qe
def aF:AV:=.str 11 146754057456765810524648563
def TO:AV:=.str 34 3391024908351683185939887485036358322104468405184053517635699906395070595443553395
def qU:AV:=.str 34 3451344881672156286774041868060568471560412698963739529611795017771829952149550195
def uI:T AV:=lf qU
def bI:AV:=.str 11 140733041483358630955807859
def sG:T Ab:=no (no .nil (no (no (no (no (no (no (no (no (lf (.cells 20 (nd Yz (nd IT (nd (.str 10 549738434251183116874867) (nd WM (lf Rn) .nil) (nd fB j8 .nil)) (nd Rn (nd b9 mo .nil) (lf (.str 10 550015421109390121464947)))) (nd (.str 10 478958489472492007158899) (nd (.str 9 2147840725831980774515) (nd cw pU .nil) (lf aF)) (nd TO (nd IU uI .nil) (lf bI)))))) .nil) .nil) .nil) .nil) .nil) .nil) .nil) .nil)) .nil
def m8:T AV:=nd (.int .i64 (.ofNat 0)) (lf (.str 4 1701736260)) .nil
def kI:T Ab:=lf (.cells 12 (nd (.str 4 1701602377) (nd (.bool false) (nd (.str 4 1953063255) (lf (.bool false)) (lf (.int .i64 (.ofNat 0)))) m8) (nd (.int .i64 (.ofNat 0)) Xd (nd (.str 3 7630663) (lf (.bool true)) .nil))))
def xa:T Ab:=no kI .nil
def vF:T Ab:=no (no (no (no xa .nil) .nil) .nil) .nil
def ij:T Ab:=no vF .nil
def sA:T Ab:=no .nil (no (no (no (no (no (no (no (no (lf (.cells 3 (nd (.slice 4106 0 20 1) (lf (.int .i64 (.ofNat 10))) (lf (.slice 4176 6 0 1))))) .nil) .nil) .nil) .nil) .nil) .nil) .nil) .nil)
def qg:T Ab:=no (no (no (lf (.cells 6 (nd (.str 4 1885697139) Vx (nd (.str 4 1701736260) (lf (.str 5 500035838278)) .nil)))) .nil) .nil) .nil
def kO:T Ab:=no (no .nil (no (no .nil (no (no qg .nil) .nil)) .nil)) .nil
def oM:T Ab:=lf (.cells 36 (nd (.str 4 1701602377) (nd (.str 4 1953063255) (nd (.str 7 32777976897693010) (nd (.int .i64 (.ofNat 0)) yF (lf (.str 0 0))) (nd (.int .i64 (.ofNat 2)) Ug (lf (.str 4 1953063255)))) (nd (.str 0 0) Xc (nd (.str 6 125780104471923) (lf (.str 3 7037761)) (lf (.int .i64 (.ofNat 2)))))) (nd (.int .i64 (.ofNat 1)) (nd (.str 6 125780104471923) (nd (.int .i64 (.ofNat 0)) dg (lf (.int .i64 (.ofNat 0)))) (nd (.str 5 461229747266) (lf (.int .i64 (.ofNat 1))) (lf (.str 4 1701736260)))) (nd (.int .i64 (.ofNat 0)) (nd (.str 3 7630663) (nd (.str 3 7630663) (lf (.int .i64 (.ofNat 0))) .nil) (lf (.int .i64 (.ofNat 0)))) (nd (.str 0 0) (lf (.str 6 125780104471923)) (lf (.str 5 500035838278)))))))
def wS:T Ab:=no oM .nil
def iS:T Ab:=no (no (no (no wS .nil) .nil) .nil) .nil
def rM:T Ab:=no .nil iS
def oC:T Ab:=lf (.cells 2 (nd (.str 4 1953391987) (lf (.int .i64 (.ofNat 4))) .nil))
def ju:T Ab:=no oC .nil
def Xo:T Ab:=no (no (no (no ju .nil) .nil) .nil) .nil
def tI:T AV:=nd (.str 4 1684956531) (lf (.str 4 1953391987)) .nil
def iO:T Ab:=no (no (no (lf (.cells 11 (nd (.str 4 1885697139) (nd (.str 4 1954047310) tI (nd (.str 6 128017496632419) (lf (.str 1 52)) .nil)) (nd (.str 4 1701736260) (nd (.str 5 500035838278) (lf (.str 1 49)) .nil) (nd (.str 4 1852139639) (lf (.str 1 48)) .nil))))) .nil) .nil) .nil
def pA:T Ab:=lf (.cells 36 (nd (.str 5 521375147346) (nd (.str 4 1954047310) (nd (.str 7 32777976897693010) (nd (.int .i64 (.ofNat 0)) (nd (.int .i64 (.ofNat 0)) (lf (.str 6 128017496632419)) .nil) (lf (.str 0 0))) (nd (.int .i64 (.ofNat 1)) (nd (.str 4 1954047310) (lf (.int .i64 (.ofNat 0))) .nil) (lf (.str 4 1954047310)))) (nd (.str 0 0) (nd (.str 4 1954047310) oD (lf (.int .i64 (.ofNat 0)))) (nd (.str 6 128017496632419) (lf (.str 3 7037761)) (lf (.int .i64 (.ofNat 1)))))) (nd (.int .i64 (.ofNat 2)) (nd (.str 6 128017496632419) (nd (.int .i64 (.ofNat 0)) (nd (.int .i64 (.ofNat 3)) (lf (.str 4 1953391987)) .nil) (lf (.int .i64 (.ofNat 0)))) (nd (.str 5 461229747266) (lf (.int .i64 (.ofNat 2))) (lf (.str 4 1701736260)))) (nd (.int .i64 (.ofNat 0)) (nd (.str 5 499984201537) (nd (.str 5 499984201537) (lf (.int .i64 (.ofNat 4))) .nil) (lf (.int .i64 (.ofNat 0)))) (nd (.str 4 1953391987) (lf (.str 6 128017496632419)) (lf (.str 5 500035838278)))))))
def iZ:T Ab:=no pA .nil
def sS:T Ab:=no (no (no iZ .nil) .nil) .nil
def gG:T Ab:=no .nil (no (no .nil sS) .nil)
def xf:T Ab:=lf (.cells 12 (nd (.str 5 521375147346) (nd (.bool false) (nd (.str 4 1954047310) (lf (.bool false)) (lf (.int .i64 (.ofNat 0)))) m8) (nd (.int .i64 (.ofNat 0)) Xd (nd (.str 5 499984201537) (lf (.bool true)) .nil))))
def yr:T Ab:=no xf .nil
def lV:T Ab:=no (no (no (no yr .nil) .nil) .nil) .nil
def vf:T Ab:=no .nil lV
def jZ:T Ab:=no .nil (no (no .nil (no vF Xo)) .nil)
def yL:T Ab:=no .nil (no .nil (no (no .nil (no (no (no (no (lf (.cells 8 (nd (.str 6 128017496632419) (nd (.slice 4135 0 4 3) (nd (.slice 4188 0 4 9) (lf (.slice 4281 0 4 9)) .nil) (lf (.slice 4220 0 4 3))) (nd .slice0 (lf (.str 6 125780104471923)) (lf (.slice 4199 0 1 2)))))) .nil) .nil) .nil) .nil)) .nil))
def xV:T Ab:=no .nil gG
def pQ:T Ab:=no rM vf
def fi:T Ab:=no (no (no jZ (no .nil yL)) (no (no .nil xV) .nil)) (no (no .nil (no .nil (no .nil pQ))) .nil)
def bY:Nat:=91918215008762150890745564413498392343809735641696970025536573464195816217744538175103894334953821039641096248432391293903597196348460656651410561087425790287956078956917640366897559267906424726660976789647860976383799842023710973620816231347907653468027657795858040009390317522648559528091237020378779065737873944862251765379492917802558742855005626338916525379873558322027811092418038184632686503044625934064982134991009548048884647325518955096858980128296168419732854755200505832813307822644904252025301183836519099860258401226407707031963139726513733380726430274466446127138573909387868391244613178127530621047580446866962255722270261255663634644803518280143844948388609595503464265110154463496663568408832178602408578457655430417722712934911626248631280233861014644833216227101594824593817089735970968666219651593762003262448373563541185119229434153494422027357215313038126723493775105641680329584132229305802477262739319781467482161261366261696158822526948912793795712742723208707200276442629513799928834943611553002239890200650435824477660297634606395022105923147888093856014615334293053938760346050780358679641649013243908416883
def sD:T Ab:=no (no Xo .nil) .nil
def jt:T Ab:=no (no .nil (no (no sS .nil) .nil)) .nil
def hU:T Ab:=no .nil (no (no iS .nil) .nil)
def lU:T Ab:=no .nil (no (no lV .nil) .nil)
def xj:T Ab:=no ij .nil
def aU:T Ab:=no (no (no .nil (no (no (no (no .nil (no (no (no (no (no (no (lf (.cells 8 (nd (.str 6 128017496632419) (nd (.slice 8236 0 4 3) (nd (.slice 8241 0 4 9) (lf (.slice 8257 0 4 9)) .nil) (lf (.slice 8248 0 4 3))) (nd .slice0 (lf (.str 6 125780104471923)) (lf (.slice 8243 0 1 2)))))) .nil) .nil) .nil) .nil) .nil) .nil)) .nil) (no .nil sD)) .nil)) (no (no (no jt hU) .nil) .nil)) (no (no (no .nil (no .nil lU)) (no .nil (no (no .nil xj) .nil))) .nil)
def yg:T Ab:=lf (.cells 2 (nd (.str 5 435744240755) (lf (.str 4 1953063255)) .nil))
def pV:T Ab:=no (no (no yg .nil) .nil) .nil
def wq:T Ab:=no .nil (no (no (no (lf (.cells 3 (nd (.str 5 435744240755) (lf (.str 4 1701736260)) (lf (.str 5 465491093862))))) .nil) .nil) .nil)
def qh:T Ab:=no (no (no (lf (.cells 6 (nd (.str 4 1885697139) u9 (nd (.str 4 1953063255) (lf (.str 7 32777976897693010)) .nil)))) .nil) .nil) .nil
def yk:T AV:=lf TO
def ri:AV:=.str 196 4625997144593842404171538691243510573663429119125374642335320243542559042563814668691837484482405127833750113773908739317189333695728753246928166881259338089789734247685749060727568260855412970724725690209432477637044768387015103740633356899445401533821360166565151677676020152361901949944030154606541128129194405081095704687623884846599901642879664719629265968012023128224176264529974075040923398583589176774144135741171062791444479902356105497855265611583994352827658098
def kw:AV:=.str 251 5525470290546454056044776610935126260603951791902458321956261110449686329400027437884959332856417558374831079249030352705801444416197371611314882232459118776305889814696274393649496892531446340825308666999469617794076459701382442917706357633418907019153506876560023850241654446085911700249480493259107259847178397875727527336603420509650821975795794360415556353262455102954717804931979135203805730732408343530887831828151547217065156453519119817977723265119272339795868450888896654128411250753736802510040958520681461156982476981191007168407641934039950813884263061439327863605357742716482591525096419186
def mH:T Ab:=no .nil (no .nil (no (no (no (no (no tJ .nil) .nil) .nil) .nil) .nil))
def qB:T Ab:=no yf .nil
def tw:T Ab:=no (no (no iI .nil) .nil) .nil
def nn:T Ab:=no .nil (no (no .nil tw) .nil)
def ru:T Ab:=no nn .nil
def iy:T Ab:=no kx .nil
def Y0:T Ab:=no (no (no v6 .nil) .nil) .nil
def ja:T Ab:=no (no (no oB .nil) .nil) .nil
def Zb:T Ab:=no ja .nil
def uX:T Ab:=no (no .nil Y0) .nil
def ti:T Ab:=no uX .nil
def tL:T Ab:=no ru ti
def md:T Ab:=no (no (no uF .nil) .nil) .nil
def tD:T Ab:=no (no pu .nil) .nil
def cz:T Ab:=no (no (no .nil (no .nil md)) .nil) (no (no (no (no .nil tD) .nil) .nil) Zb)
def uu:T Ab:=no jp .nil
def Zk:T Ab:=no (no .nil (no (no (no (no .nil (no (no (no (no (lf (.cells 8 (nd (.str 6 111477645534564) (nd (.slice 4131 0 2 3) (nd (.slice 4175 0 3 9) (lf (.slice 4232 0 3 9)) .nil) (lf (.slice 4192 0 2 3))) (nd (.slice 4120 0 1 2) (lf (.str 6 125779919729250)) (lf .slice0))))) .nil) .nil) .nil) .nil)) .nil) .nil) .nil)) .nil
def Xp:Nat:=18072405351915242575537206438913264756448831390041777093898274722310640851346270769333521218372403149761281510936386174467852110680933234234085993823718323560652822543570877490088761099931584717826863729117152066266371517531957400306596667223504234893650533170425777683371297160832975066199582394611001160217393548239683486286869475049047067400491477121826294914287733547941722230656195376586309455806156173428911625633453933374936441171233334602327367929837644301614986133878539375800703715817203882657514473502980609534530501990985872740594590628712034320949764365782888654899765270703839834306907951189267359459912943453439559114633484829547234676470163742046339299388897043988111520008843395924718852096755862598407477057057195665991223899350641677883573157298342971295232069904463102646551075823085316609942894186988712943598921075
def kb:T Ab:=no (no tL .nil) (no (no cz .nil) Zk)
def iP:T Ab:=no md .nil
def uP:T Ab:=no (no .nil (no (no tD .nil) .nil)) .nil
def jD:T Ab:=no tw .nil
def qA:T Ab:=no (no (no (no .nil (no uX (no (no .nil (no (no (no (no (no (no (lf (.cells 8 (nd (.str 6 111477645534564) (nd (.slice 8263 0 2 3) (nd (.slice 8269 0 3 9) (lf (.slice 8277 0 3 9)) .nil) (lf (.slice 8273 0 2 3))) (nd (.slice 8260 0 1 2) (lf (.str 6 125779919729250)) (lf .slice0))))) .nil) .nil) .nil) .nil) .nil) .nil)) .nil))) .nil) (no (no (no .nil (no (no .nil iP) .nil)) .nil) (no (no .nil uP) (no (no (no .nil jD) .nil) .nil)))) (no (no .nil (no (no (no (no .nil ja) .nil) .nil) .nil)) .nil)
def qM:AV:=.str 171 2878760862356752617792004808210750195977156704927484115724035896448782623403147014425620298161713923076362884702055035776335187492211335101105505717872118328217314566160977356761361987669165055445417557055041934309342374934751789791709045809004390325463912491092259027546934913018799869368854196602957635212002410149832584069165224082011891730233774427525741744888919989687644480065618118706467300123980507934578
def rD:AV:=.str 150 6819347040771877466865190143885925300106292049067740377309291643712045955446728802536186102104381273897778552250046648769419129329073719629371228176044434747494273532897698241389892812799945564525500110661027514066209546222885116211010681129874756285745170228324284382667242774581968932711611181282694199971925431899082178574505545905293073560747737313861988210
def aj:AV:=.str 25 308372238803777473923334815084156688732053805764581589738867
def RH:AV:=.str 16 144062515755668964601519818500602950771
def az:AV:=.str 35 883366664653322465772361288671021087896481338859921534922250645118090124842475287667
def oG:AV:=.str 34 3450418549734301826390039165779338123952060735020582745300794330383034498591061107
def uV:T AV:=lf oG
def Ri:AV:=.str 16 144062515755668936434781925401946059891
def eR:AV:=.str 32 52652756253082899199268894712389749410004585946827366947742458880329943184499
def uU:AV:=.str 31 205660971983331550740601966725525394975556212400573361908560646695287092339
def iB:T AV:=lf uU
def gN:T AV:=nd (.bool true) (lf (.str 4 1953063255)) (lf (.int .i64 (.ofNat 0)))
def xx:T AV:=nd (.int .i64 (.ofNat 0)) (lf (.bool true)) .nil
def v7:T Ab:=lf (.cells 6 (nd (.str 4 1852994900) gN xx))
def fY:T Ab:=no v7 .nil
def wu:T Ab:=no (no (no (no (no fY .nil) .nil) .nil) .nil) .nil
def ph:T Ab:=no (no .nil wu) .nil
def vS:T Ab:=lf (.cells 6 (nd (.str 4 1953063255) (nd (.bool true) (lf (.str 4 1852994900)) (lf (.int .i64 (.ofNat 0)))) xx))
def yd:T Ab:=no vS .nil
def qv:T Ab:=no (no (no (no yd .nil) .nil) .nil) .nil
def cW:T Ab:=no (no ph .nil) (no .nil (no (no (no .nil qv) .nil) .nil))
def Tw:T AV:=nd .slice0 (lf (.str 5 499967814002)) (lf .slice0)
def fW:T Ab:=no .nil (no (no .nil (no .nil (no (no (no (no (no (lf (.cells 8 (nd (.str 4 1952867692) (nd (.slice 4127 0 2 3) (nd (.slice 4154 0 2 9) (lf (.slice 4198 0 2 9)) .nil) (lf (.slice 4171 0 2 3))) Tw))) .nil) .nil) .nil) .nil) .nil))) .nil)
def gz:T Ab:=no fW .nil
def pS:T AV:=nd (.str 4 1953063255) (lf (.str 6 110442657834322)) .nil
def jc:T Ab:=no (no (no (lf (.cells 6 (nd (.str 4 1885697139) (nd (.str 4 1852994900) (lf (.str 4 1684956531)) (lf (.str 4 1952867692))) pS))) .nil) .nil) .nil
def yn:T Ab:=lf (.cells 18 (nd (.str 4 1852994900) (nd (.str 4 1953063255) (nd (.str 6 110442657834322) Dz (lf (.int .i64 (.ofNat 2)))) (nd (.str 0 0) Ug (lf (.str 5 499967814002)))) (nd (.int .i64 (.ofNat 1)) (nd (.str 5 499967814002) Dz (lf (.str 6 110442657834322))) (nd (.int .i64 (.ofNat 0)) (lf (.str 4 1852994900)) (lf (.str 0 0))))))
def xU:T Ab:=no yn .nil
def VH:T Ab:=no (no (no (no (no xU .nil) .nil) .nil) .nil) .nil
def tc:Ab:=.cells 18 (nd (.str 4 1953063255) (nd (.str 4 1852994900) (nd (.str 6 110442657834322) Dz (lf (.int .i64 (.ofNat 1)))) (nd (.str 0 0) (nd (.str 4 1852994900) (lf (.int .i64 (.ofNat 0))) .nil) (lf (.str 4 1952867692)))) (nd (.int .i64 (.ofNat 2)) (nd (.str 4 1952867692) Dz (lf (.str 6 110442657834322))) (nd (.int .i64 (.ofNat 0)) (lf (.str 4 1953063255)) (lf (.str 0 0)))))
def kY:T Ab:=lf tc
def cr:T Ab:=no kY .nil
def ld:T Ab:=no (no (no (no cr .nil) .nil) .nil) .nil
def mQ:T Ab:=no (no (no .nil (no .nil ld)) .nil) .nil
def Xs:Nat:=52204060860440712802144655282209769965407979171854228339777089774721721635321815032194636948104888064577762980953438703393332660374616431880976558153547356680901779182468473650105342572316219155032164097486760151421465047221787806781779946135825074016017427914712090137908686414269146525132340420914736625011716572983423773432976771616556393525282253773051044081812946670258435717608046941178417537475945889541228253421003357135716531812726452574179477479093742728857539810623838791725231124020001324675199427287062878403693593645950000719608223059080057055521446343783276041324515506395660555528660339
def wm:T Ab:=no .nil VH
def iw:T Ab:=no (no cW .nil) (no gz (no (no .nil (no .nil wm)) mQ))
def wv:T Ab:=no qv .nil
def yO:T Ab:=no (no .nil (no (no (no (no .nil (no .nil wv)) .nil) .nil) (no .nil (no .nil (no wm .nil))))) (no (no .nil (no (no (no .nil (no .nil (no ld .nil))) .nil) .nil)) (no (no .nil (no .nil ph)) (no (no (no .nil (no .nil (no (no (no (no (no (no (lf (.cells 8 (nd (.str 4 1952867692) (nd (.slice 8282 0 2 3) (nd (.slice 8285 0 2 9) (lf (.slice 8292 0 2 9)) .nil) (lf (.slice 8289 0 2 3))) Tw))) .nil) .nil) .nil) .nil) .nil) .nil))) .nil) .nil)))
def gA:T Ab:=no .nil (no (no (no (no (lf (.cells 3 (nd (.str 5 435744240755) (lf (.str 4 1852994900)) (lf (.str 5 465491093862))))) .nil) .nil) .nil) .nil)
def fX:T Ab:=no .nil (no (no (no (no (lf (.cells 3 (nd (.str 5 435744240755) (lf (.str 4 1953063255)) (lf (.str 5 465491093862))))) .nil) .nil) .nil) .nil)
def t8:T AV:=nd (.str 4 1852994900) (lf (.str 6 110442657834322)) .nil
def vn:AV:=.str 112 240225073758826443963808411851199983273760698898825632651207277060880883185241691979584132360741557562859099067608214313449781243656922405325963370225960288939002390246375085869086533492147481171980559029422762902316449505039215824604508528420840705519643376604953735026
def qX:AV:=.str 111 938315972036412187505643686234381773023989507189037473378694003278724461433177381333264945715264450976679423655045431774456135879341679375762772663079610004560598662359595684398260685524896612005803434947722835215537320350298236363561121578696027583801628896436973426
def cX:T Ab:=no .nil wM
def eW:AV:=.str 25 327203544009937516214842183636700049565654680178767722407283
def uT:T AV:=nd (.str 10 549738434251183116874867) Vc .nil
def Zg:AV:=.str 35 868102376538030896124310596654921195252685431075781975473693044729935860167917007987
def ou:AV:=.str 38 14823413393998901061508338204142855429956923486311129545947186397089491698789588947190510707
def re:T AV:=lf ou
def wV:AV:=.str 33 13481815944031860517765886620655229260205803862810810656692104866720936563668083
def ni:T AV:=lf wV
def rB:T Ab:=lf (.cells 18 (nd (.str 5 521375147346) (nd (.str 4 2037609794) (nd (.str 7 32777976897693010) Dz (lf (.int .i64 (.ofNat 1)))) kK) (nd (.int .i64 (.ofNat 2)) (nd (.str 6 128017496632419) Dz (lf (.str 5 521510348114))) YC)))
def rT:T Ab:=no rB .nil
def je:T Ab:=no (no (no (no rT .nil) .nil) .nil) .nil
def Ys:T Ab:=no .nil (no (no .nil (no .nil je)) .nil)
def lY:T Ab:=no (no (no (lf (.cells 6 (nd (.str 4 1885697139) pX (nd (.str 5 521375147346) (lf (.str 5 521510348114)) .nil)))) .nil) .nil) .nil
def pr:T Ab:=lf (.cells 18 (nd (.str 4 1701602377) (nd (.str 4 1953063255) (nd (.str 7 32777976897693010) Dz (lf (.int .i64 (.ofNat 2)))) (nd (.str 0 0) Ug (lf (.str 6 125780104471923)))) (nd (.int .i64 (.ofNat 1)) (nd (.str 6 125780104471923) Dz (lf (.str 5 521510348114))) cF)))
def kG:T Ab:=no pr .nil
def eI:T Ab:=no (no (no (no (no kG .nil) .nil) .nil) .nil) .nil
def ig:Ab:=.cells 8 (nd (.str 6 128017496632419) (nd (.slice 4128 0 2 3) (nd (.slice 4155 0 2 9) (lf (.slice 4199 0 2 9)) .nil) (lf (.slice 4172 0 2 3))) KU)
def px:T Ab:=no (no .nil (no (no .nil (no .nil (no (no (no (no (no (lf ig) .nil) .nil) .nil) .nil) .nil))) .nil)) .nil
def Y3:T Ab:=lf (.cells 6 (nd (.str 4 1701602377) gN Oz))
def YM:T Ab:=no Y3 .nil
def gX:T Ab:=no (no (no (no (no YM .nil) .nil) .nil) .nil) .nil
def eJ:T Ab:=no .nil gX
def nm:T Ab:=no eJ .nil
def se:T Ab:=no nm .nil
def VO:T Ab:=no se Y5
def YF:Nat:=52218076055456531490923450685595124119881040808633132054421729668962360694363974570217079398871895755925317856026729404364487835030359081522779651074359427642163838507551506569234149742872272113601537053273349907728975328480311039795923292653970380902796781876270851852460547037749917318699743226117350431377047362188868309387476869961923822627763108486830711092485336679595196958925042559815888009360561067350863184427111259670057487133347698590862367598039721958409652960212503874513041763837981183284329488031493309594193185589728386310991964062744957088027886555662590797578528153961772919756645747
def cn:T Ab:=no .nil (no .nil eI)
def rf:T Ab:=no (no (no Ys (no .nil cn)) px) (no VO .nil)
def jh:T Ab:=no je .nil
def nq:T Ab:=no .nil qI
def rj:T Ab:=no (no (no .nil (no (no .nil (no .nil (no .nil jh))) .nil)) (no (no .nil (no (no .nil eJ) .nil)) (no (no .nil (no .nil (no .nil (no (no (no (no (no (no (lf (.cells 8 (nd (.str 6 128017496632419) (nd (.slice 8297 0 2 3) (nd (.slice 8300 0 2 9) (lf (.slice 8307 0 2 9)) .nil) (lf (.slice 8304 0 2 3))) KU))) .nil) .nil) .nil) .nil) .nil) .nil)))) .nil))) (no (no (no (no .nil (no .nil nq)) .nil) (no .nil (no cn .nil))) .nil)
def rt:AV:=.str 110 3602204326827149228530709806985983739247648227525953997930262248840318534167073987326356993357706026312436556921086407357836976309252418537536965466911891719377125110340088228597857205717366470946924518328377955071028884617802934486933614973864275559833918610632562
def vZ:AV:=.str 113 61509984662357480587310668045481924757836493364887818511943250647878115145940396728667713952899487473946052502950232651208283210462201240615419992608677312991468614632929031520930831626397225156790998458791835452732337912230533075045783966327556353821438286937171837087602
def vO:T Ab:=no .nil iH
def g6:T Ab:=no .nil ky
def oV:T Ab:=no .nil g6
def lQ:T Ab:=lf (.cells 4 (nd (.str 7 31084746137363827) (nd (.str 7 32497592573780591) (lf (.str 1 49)) .nil) (lf (.str 5 521627987820))))
def de:AV:=.str 23 4705417716121147024622855437819697767816772839527376243
def Xg:AV:=.str 12 35403880828450084507374874482
def fc:AV:=.str 49 1935654893791617962530538377238911756156929161009856538743310111396620798274223142288561474881596427441676342276748403
def mE:AV:=.str 35 868100631983153369160986652541208309858874601092304111588026808556534370009455359091
def mA:T AV:=lf mE
def Xi:AV:=.str 15 275849913233815553119296276756000611
def Zs:AV:=.str 18 4198446982810214477657896175100189458134131
def iD:AV:=.str 35 883544288783550841536817089216685319956844924576852472922171018918712197354375967859
def pR:T AV:=lf iD
def xi:AV:=.str 38 14564311812517872435541611842800800715596048593669884652942981778781590487704925583933011059
def ow:T AV:=lf xi
def Z7:AV:=.str 35 883544288783550841536817089216685319956844924576852472922171019195196356646138115187
def oL:AV:=.str 37 56891843017647939201334421260940627795297064819022986925558522573365588929052079351493747
def xG:T AV:=lf oL
def rq:T Ab:=no .nil (no .nil (no (no (no (no (no (no (no (no (lf (.cells 15 (nd de (nd Xg f9 (nd fc (lf (.str 10 549830960776699095838578)) mA)) (nd Xi (nd Zs pR ow) (nd Z7 Vc xG))))) .nil) .nil) .nil) .nil) .nil) .nil) .nil) .nil))
def gW:T Ab:=lf (.cells 6 (nd (.str 4 1701602377) (nd (.bool true) (lf (.str 4 1953063255)) (lf (.int .i64 (.ofNat 20)))) Oz))
def v8:T Ab:=no gW .nil
def uc:T Ab:=no (no (no (no (no v8 .nil) .nil) .nil) .nil) .nil
def mY:T Ab:=no .nil uc
def qb:T Ab:=lf (.cells 2 (nd (.str 5 495622648436) (lf (.int .i64 (.ofNat 5))) .nil))
def sn:T Ab:=no qb .nil
def uz:T Ab:=no (no (no (no (no sn .nil) .nil) .nil) .nil) .nil
def xh:T Ab:=no uz .nil
def cN:T Ab:=no .nil (no .nil xh)
def lx:T Ab:=lf (.cells 6 (nd (.str 4 1885697139) (nd (.str 4 1701602377) (lf (.str 7 28559167692432754)) (lf (.str 5 500068345697))) Sq))
def xl:T Ab:=lf (.cells 36 (nd (.str 4 1701602377) (nd (.str 4 1953063255) (nd (.str 6 127978942194000) (nd (.int .i64 (.ofNat 4)) (nd (.int .i64 (.ofNat 0)) (lf (.str 5 500068345697)) .nil) (lf (.str 0 0))) il) (nd (.str 5 495622648436) Xc (nd (.str 5 500068345697) (lf (.str 0 0)) (lf (.int .i64 (.ofNat 2)))))) (nd (.int .i64 (.ofNat 1)) (nd (.str 5 500068345697) nO up) yc)))
def ge:T Ab:=no xl .nil
def so:T Ab:=no (no (no (no ge .nil) .nil) .nil) .nil
def br:T Ab:=no .nil (no .nil (no (no .nil so) .nil))
def xm:T Ab:=lf (.cells 27 (nd (.str 5 521375147346) (nd (.str 4 2037609794) jr (nd (.str 0 0) vY (nd (.str 7 32199642035675501) (lf (.str 6 127978942194000)) .nil))) (nd (.int .i64 (.ofNat 2)) (nd (.str 7 32199642035675501) Sp wt) (nd (.int .i64 (.ofNat 0)) og (nd (.str 0 0) (lf (.str 7 32199642035675501)) .nil)))))
def nF:T Ab:=no xm .nil
def i8:T Ab:=no (no (no nF .nil) .nil) .nil
def bN:T Ab:=no mY (no (no (no .nil i8) .nil) .nil)
def ta:T Ab:=lf (.cells 6 (nd (.str 4 1885697139) (nd (.str 4 2037609794) (lf (.str 7 28559167692432754)) (lf (.str 7 32199642035675501))) Vv))
def ji:T Ab:=no .nil (no .nil (no (no (no .nil (no (no (no (no (lf (.cells 8 (nd (.str 7 32199642035675501) (nd (.slice 4135 0 2 3) (nd (.slice 4190 0 4 9) (lf (.slice 4247 0 3 9)) .nil) (lf (.slice 4207 0 2 3))) (nd (.slice 4123 0 1 2) (lf (.str 5 500068345697)) (lf .slice0))))) .nil) .nil) .nil) .nil)) .nil) .nil))
def sH:T Ab:=no ji .nil
def uh:T Ab:=no .nil br
def ZK:Nat:=170136657670106535454611182197095874239657052961494369434902281855281272972376544487976954125727297254902358721670333601280938281707748105968940114697156678341765138849589287207787897151916402162297940910842910519291182032034471315859337867763404063529568583063336782779934562883836756055897370654980296444647251546514501114772205529700411744621417318392323226073646493698787806495715420432900457594092218277366319155463770977368962666352304560673521053332597121525597832316700653764629969777368494798354641496876715798897785806472748163021643894406880079276710859763652328599030130661664612697072833352753745146474604345662243058582012234469301730847967400373251637725871419005052351142898897403060918365871626271600333058407320929363005678245711238240783726942412126338920874442294069886299035513275244196689367196805228651537905390729450887576216721911494336833852985671804206300688891840040807746788199408439017348248292779379
def wU:T Ab:=no (no (no (no (no .nil Yp) bN) cN) sH) (no .nil uh)
def xp:AV:=.tuple [(.str 386 ZK),(.int .i64 (.ofNat 0))]
def wi:T Ab:=no (no (no .nil oR) .nil) .nil
def rQ:T Ab:=no (no (no (no (no .nil qb) .nil) .nil) .nil) .nil
def mt:T Ab:=no (no (no (no (no .nil xm) .nil) .nil) .nil) .nil
def xH:T Ab:=no (no (no (no (no (no .nil gW) .nil) .nil) .nil) .nil) .nil
def iK:T Ab:=no (no (no (no (no .nil xl) .nil) .nil) .nil) .nil
def gr:T Ab:=no (no (no (no (no wi .nil) .nil) .nil) (no .nil (no (no (no (no (no .nil rQ) .nil) .nil) .nil) (no (no (no (no .nil mt) .nil) .nil) .nil)))) (no (no (no .nil (no .nil (no .nil (no .nil xH)))) (no (no (no (no (no .nil (no (no (no (no (no .nil (lf (.cells 8 (nd (.str 7 32199642035675501) (nd (.slice 12408 0 2 3) (nd (.slice 12426 0 4 9) (lf (.slice 12429 0 3 9)) .nil) (lf (.slice 12415 0 2 3))) (nd (.slice 12421 0 1 2) (lf (.str 5 500068345697)) (lf .slice0)))))) .nil) .nil) .nil) .nil)) .nil) .nil) .nil) .nil)) (no (no .nil (no (no (no (no .nil iK) .nil) .nil) .nil)) .nil))
def lA:T Ab:=no .nil (no (no (no (no .nil yu) .nil) .nil) .nil)
def nI:AV:=.str 209 95495363945524868785757780484714682914116908160966141322525639930353455605581800761955540339309156223765677397332481642170632566674444450629674505777788568213190790459790957372286131871530538275372707304553054019633996815195748061848410465693854663383323515308933367852088625139301740584533299468874485098665799487448250050870374668420242000644509180604357411694039387415850191579222445387051365455058127349707967813574199283025533343336179162458201615954346023624267658507544600654476572046107131801458
def wg:T Ab:=no (no (no .nil nQ) .nil) .nil
def lW:T Ab:=no (no (no .nil qm) .nil) .nil
def iX:AV:=.str 152 504250124226249378853670950949388023439680554498351414610257406095510727834044549905041926253246740373691926680685400419388467574074130363131197579343055442023347813773887471562288259091576481519378302769490445164707913405823004224585710180620480237794590398664545479820085424204464204989150954201549145961983011414239700842897669442777994503767292183607906535239538
def ki:T Ab:=no (no nq .nil) .nil
def tP:T Ab:=no (no vO .nil) .nil
def ai:AV:=.str 25 308372238812569513275372922118521806316597543122849934566771
def ct:AV:=.str 11 138296650587196483401707378
def dE:AV:=.str 34 3007627791810420662549324238751390289152012541264009287790946966043395606324802675
def kS:AV:=.str 36 222234149222158456123426144560850851432334299295470011406218215254984135769907140064371
def ot:T AV:=lf kS
def YR:AV:=.str 31 179268586147452632340748562738359238516698664535874568141311349243590833267
def lg:AV:=.str 33 13246187521347907550539144549420520821359161665012530616117738323797792398865523
def yz:T AV:=lf lg
def SO:T AV:=nd .slice0 (lf (.str 5 435777793139)) (lf .slice0)
def oJ:T Ab:=no (no .nil (no .nil (no (no (no (no (no (lf (.cells 8 (nd (.str 6 125780070981997) (nd (.slice 4130 0 2 3) (nd (.slice 4157 0 2 9) (lf (.slice 4201 0 2 9)) .nil) (lf (.slice 4174 0 2 3))) SO))) .nil) .nil) .nil) .nil) .nil))) .nil
def iU:T Ab:=no .nil (no .nil oJ)
def om:T Ab:=lf (.cells 18 (nd (.str 5 521375147346) (nd (.str 4 2037609794) (nd (.str 5 435626799686) Dz (lf (.int .i64 (.ofNat 1)))) (nd (.str 0 0) jH (lf (.str 6 125780070981997)))) (nd (.int .i64 (.ofNat 2)) (nd (.str 6 125780070981997) Dz (lf (.str 5 435626799686))) YC)))
def jj:T Ab:=no om .nil
def ww:T Ab:=no (no (no (no jj .nil) .nil) .nil) .nil
def hJ:T Ab:=no .nil (no (no .nil (no .nil ww)) .nil)
def rE:T Ab:=lf (.cells 6 (nd (.str 4 1885697139) (nd (.str 4 2037609794) (lf (.str 4 1684956531)) (lf (.str 6 125780070981997))) (nd (.str 5 521375147346) (lf (.str 5 435626799686)) .nil)))
def mX:T Ab:=lf (.cells 18 (nd (.str 4 1701602377) (nd (.str 4 1953063255) (nd (.str 5 435626799686) Dz (lf (.int .i64 (.ofNat 2)))) (nd (.str 0 0) Ug (lf (.str 5 435777793139)))) (nd (.int .i64 (.ofNat 1)) (nd (.str 5 435777793139) Dz (lf (.str 5 435626799686))) cF)))
def wx:T Ab:=no mX .nil
def kz:T Ab:=no (no (no (no (no wx .nil) .nil) .nil) .nil) .nil
def eY:Nat:=712005936031413825374557084909464832566149239465160465555932823378588909702577622729363033759520223617446656711710992862764302943560335927440672506921575975841734711716019838576951951139431242718958802485359877006140135905248240295431228180744546123379019157727644642202464281543649029649323132509374701822518677927422455926220264565344195582687518689350138081309668486459220963694443539264043283340046095829550852823932120688558964482736276080015835247694108228232419743188821012489506820286287406421900207358660392211777678975948053618926960598250184365049077194931268621882956670323
def wA:T Ab:=no .nil kz
def qK:T Ab:=no hJ (no .nil (no .nil wA))
def sO:T Ab:=no (no iU qK) (no .nil VO)
def wZ:AV:=.tuple [(.str 243 eY),(.int .i64 (.ofNat 0))]
def uj:T Ab:=no (no (no (no (no .nil mX) .nil) .nil) .nil) .nil
def nJ:T Ab:=no (no (no (no (no .nil Y3) .nil) .nil) .nil) .nil
def pW:T Ab:=no (no (no (no (no .nil om) .nil) .nil) .nil) .nil
def xq:T Ab:=no (no (no (no .nil (no .nil wi)) (no (no .nil (no (no (no .nil uj) .nil) .nil)) .nil)) .nil) (no (no (no (no .nil (no (no (no .nil nJ) .nil) .nil)) .nil) (no .nil (no .nil (no (no (no .nil (no (no (no (no (no .nil (lf (.cells 8 (nd (.str 6 125780070981997) (nd (.slice 12432 0 2 3) (nd (.slice 12435 0 2 9) (lf (.slice 12442 0 2 9)) .nil) (lf (.slice 12439 0 2 3))) SO)))) .nil) .nil) .nil) .nil)) .nil) .nil)))) (no (no .nil (no .nil (no (no (no .nil pW) .nil) .nil))) .nil))
def nh:AV:=.str 106 743877789230138203518897193842055434448220660337740847671528646236583000624557343101232996393036386575832312975072472627269934063644379113519399240280804578630383526223868504964064213722063195789188134932082633009381600148926588915138269466227395881889650
def wa:AV:=.str 110 3602203367712376268955933669533234651434608204802592116021304119078477723159574204905316680430455200383667074643314387594122140185678143756285095769823462297572405033899951447937082186227328476173605918567318657046289643425709106215996956980773649373310783943634802
def o1:Orc:=
 {f:=284,args:=[(.slice 45 0 4 1),(.func (.func 285) [] [(.ptr 88 0)])],part:=(no y6 (no (no (no .nil (no .nil (no (lf (.cells 5 (nd (.int .i64 (.ofNat 0)) y7 y8))) .nil))) (no .nil (no (lf (.cells 4 (nd y9 (nd (.int .i64 (.ofNat 42)) (lf (.int .i64 (.ofNat 9))) .nil) (lf (.int .i64 (.ofNat 3)))))) .nil))) .nil)),nx:=89,ok:=true,v:=(.bool true),out:=(no .nil (no (no (no .nil (no .nil (no (lf (.cells 5 (nd (.int .i64 (.ofNat 1)) y7 y8))) .nil))) y10) .nil)),nx':=89,wr:=[44,88]}
theorem k1:∀[F:Facts],Ac (Env.ofS Tryz.prog [] []) 1000000 o1=true:=by
 intro F
 kernel_rfl
theorem w1 (G:Nat→D→D):o1.Valid Tryz.prog G:=Ad.val (okE _ []) (w0 G) k1
def o2:Orc:=
 {f:=308,args:=[(.ptr 44 0),(.int .i64 (.ofNat 416)),(.func (.func 319) [] [])],part:=y11,nx:=91,ok:=true,v:=(.int .i64 (.ofNat 1)),out:=y13,nx':=91,wr:=[44]}
theorem k2:∀[F:Facts],Ac (Env.ofS Tryz.prog [] []) 1000000 o2=true:=by
 intro F
 kernel_rfl
theorem w2 (G:Nat→D→D):o2.Valid Tryz.prog G:=Ad.val (okE _ []) (w0 G) k2
def o3:Orc:=
 {f:=282,args:=[(.ptr 44 0)],part:=y11,nx:=91,ok:=true,v:=(.tuple []),out:=y13,nx':=93,wr:=[44]}
theorem k3:∀[F:Facts],Ac (Env.ofS Tryz.prog [o2] []) 1000000 o3=true:=by
 intro F
 kernel_rfl
theorem w3 (G:Nat→D→D):o3.Valid Tryz.prog G:=Ad.val (okE _ []) (.cons (w2 G) (w0 G)) k3
def o4:Orc:=
 {f:=284,args:=[(.slice 45 0 4 1),(.func (.func 285) [] [(.ptr 93 0)])],part:=(no (no .nil (no .nil (no .nil (no y2 (no (lf (.cells 5 (nd (.int .i64 (.ofNat 0)) y7 y14))) .nil))))) y12),nx:=94,ok:=true,v:=(.bool true),out:=(no (no .nil (no .nil (no .nil (no .nil (no (lf (.cells 5 (nd (.int .i64 (.ofNat 2)) y7 y14))) .nil))))) y15),nx':=96,wr:=[44,93]}
theorem k4:∀[F:Facts],Ac (Env.ofS Tryz.prog [] []) 1000000 o4=true:=by
 intro F
 kernel_rfl
theorem w4 (G:Nat→D→D):o4.Valid Tryz.prog G:=Ad.val (okE _ []) (w0 G) k4
def o5:Orc:=
 {f:=308,args:=[(.ptr 44 0),(.int .i64 (.ofNat 416)),(.func (.func 319) [] [])],part:=y16,nx:=98,ok:=true,v:=(.int .i64 (.ofNat 1)),out:=y18,nx':=98,wr:=[44]}
theorem k5:∀[F:Facts],Ac (Env.ofS Tryz.prog [] []) 1000000 o5=true:=by
 intro F
 kernel_rfl
theorem w5 (G:Nat→D→D):o5.Valid Tryz.prog G:=Ad.val (okE _ []) (w0 G) k5
def o6:Orc:=
 {f:=282,args:=[(.ptr 44 0)],part:=y16,nx:=98,ok:=true,v:=(.tuple []),out:=y18,nx':=100,wr:=[44]}
theorem k6:∀[F:Facts],Ac (Env.ofS Tryz.prog [o5] []) 1000000 o6=true:=by
 intro F
 kernel_rfl
theorem w6 (G:Nat→D→D):o6.Valid Tryz.prog G:=Ad.val (okE _ []) (.cons (w5 G) (w0 G)) k6
def o7:Orc:=
 {f:=284,args:=[(.slice 45 0 4 1),(.func (.func 285) [] [(.ptr 100 0)])],part:=(no y6 (no (no .nil (no (no (no .nil (lf (.cells 5 (nd (.int .i64 (.ofNat 0)) y7 y19)))) .nil) y17)) .nil)),nx:=101,ok:=true,v:=(.bool true),out:=(no .nil (no (no .nil (no (no (no .nil (lf (.cells 5 (nd (.int .i64 (.ofNat 1)) y7 y19)))) .nil) y20)) .nil)),nx':=101,wr:=[44,100]}
theorem k7:∀[F:Facts],Ac (Env.ofS Tryz.prog [] []) 1000000 o7=true:=by
 intro F
 kernel_rfl
theorem w7 (G:Nat→D→D):o7.Valid Tryz.prog G:=Ad.val (okE _ []) (w0 G) k7
def o8:Orc:=
 {f:=308,args:=[(.ptr 44 0),(.int .i64 (.ofNat 416)),(.func (.func 319) [] [])],part:=y21,nx:=103,ok:=true,v:=(.int .i64 (.ofNat 1)),out:=y23,nx':=103,wr:=[44]}
theorem k8:∀[F:Facts],Ac (Env.ofS Tryz.prog [] []) 1000000 o8=true:=by
 intro F
 kernel_rfl
theorem w8 (G:Nat→D→D):o8.Valid Tryz.prog G:=Ad.val (okE _ []) (w0 G) k8
def o9:Orc:=
 {f:=282,args:=[(.ptr 44 0)],part:=y21,nx:=103,ok:=true,v:=(.tuple []),out:=y23,nx':=105,wr:=[44]}
theorem k9:∀[F:Facts],Ac (Env.ofS Tryz.prog [o8] []) 1000000 o9=true:=by
 intro F
 kernel_rfl
theorem w9 (G:Nat→D→D):o9.Valid Tryz.prog G:=Ad.val (okE _ []) (.cons (w8 G) (w0 G)) k9
def o10:Orc:=
 {f:=284,args:=[(.slice 45 0 4 1),(.func (.func 285) [] [(.ptr 105 0)])],part:=(no (no .nil (no (no .nil (no (no .nil (lf (.cells 5 (nd (.int .i64 (.ofNat 0)) y7 y24)))) .nil)) y4)) y22),nx:=106,ok:=true,v:=(.bool true),out:=(no (no .nil (no (no .nil (no (no .nil (lf (.cells 5 (nd (.int .i64 (.ofNat 2)) y7 (nd (.int .i64 (.ofNat 128)) (lf (.int .i64 (.ofNat 21))) .nil))))) .nil)) .nil)) y25),nx':=108,wr:=[44,105]}
theorem k10:∀[F:Facts],Ac (Env.ofS Tryz.prog [] []) 1000000 o10=true:=by
 intro F
 kernel_rfl
theorem w10 (G:Nat→D→D):o10.Valid Tryz.prog G:=Ad.val (okE _ []) (w0 G) k10
def o11:Orc:=
 {f:=282,args:=[(.ptr 44 0)],part:=(no .nil y25),nx:=110,ok:=true,v:=(.tuple []),out:=.nil,nx':=111,wr:=[]}
theorem k11:∀[F:Facts],Ac (Env.ofS Tryz.prog [] []) 1000000 o11=true:=by
 intro F
 kernel_rfl
theorem w11 (G:Nat→D→D):o11.Valid Tryz.prog G:=Ad.val (okE _ []) (w0 G) k11
def o12:Orc:=
 {f:=284,args:=[(.slice 45 0 4 1),(.func (.func 285) [] [(.ptr 111 0)])],part:=(no (no (no (no (no .nil (no .nil (lf (.cells 5 (nd (.int .i64 (.ofNat 0)) y7 y26))))) .nil) .nil) y5) y25),nx:=112,ok:=true,v:=(.bool true),out:=(no (no (no (no (no .nil (no .nil (lf (.cells 5 (nd (.int .i64 (.ofNat 4)) y7 y26))))) .nil) .nil) .nil) y27),nx':=113,wr:=[44,111]}
theorem k12:∀[F:Facts],Ac (Env.ofS Tryz.prog [] []) 1000000 o12=true:=by
 intro F
 kernel_rfl
theorem w12 (G:Nat→D→D):o12.Valid Tryz.prog G:=Ad.val (okE _ []) (w0 G) k12
def o13:Orc:=
 {f:=308,args:=[(.ptr 44 0),(.int .i64 (.ofNat 416)),(.func (.func 319) [] [])],part:=y28,nx:=115,ok:=true,v:=(.int .i64 (.ofNat 3)),out:=y30,nx':=115,wr:=[44]}
theorem k13:∀[F:Facts],Ac (Env.ofS Tryz.prog [] []) 1000000 o13=true:=by
 intro F
 kernel_rfl
theorem w13 (G:Nat→D→D):o13.Valid Tryz.prog G:=Ad.val (okE _ []) (w0 G) k13
def o14:Orc:=
 {f:=282,args:=[(.ptr 44 0)],part:=y28,nx:=115,ok:=true,v:=(.tuple []),out:=y30,nx':=117,wr:=[44]}
theorem k14:∀[F:Facts],Ac (Env.ofS Tryz.prog [o13] []) 1000000 o14=true:=by
 intro F
 kernel_rfl
theorem w14 (G:Nat→D→D):o14.Valid Tryz.prog G:=Ad.val (okE _ []) (.cons (w13 G) (w0 G)) k14
def o15:Orc:=
 {f:=284,args:=[(.slice 45 0 4 1),(.func (.func 285) [] [(.ptr 117 0)])],part:=(no (no .nil (no .nil (no (no .nil (no .nil (lf (.cells 5 (nd (.int .i64 (.ofNat 0)) y31 y32))))) y3))) y29),nx:=118,ok:=true,v:=(.bool true),out:=(no (no .nil (no .nil (no (no .nil (no .nil (lf (.cells 5 (nd (.int .i64 (.ofNat 1)) y31 y32))))) .nil))) y33),nx':=118,wr:=[44,117]}
theorem k15:∀[F:Facts],Ac (Env.ofS Tryz.prog [] []) 1000000 o15=true:=by
 intro F
 kernel_rfl
theorem w15 (G:Nat→D→D):o15.Valid Tryz.prog G:=Ad.val (okE _ []) (w0 G) k15
def o16:Orc:=
 {f:=282,args:=[(.ptr 44 0)],part:=(no .nil y33),nx:=120,ok:=true,v:=(.tuple []),out:=.nil,nx':=121,wr:=[]}
theorem k16:∀[F:Facts],Ac (Env.ofS Tryz.prog [] []) 1000000 o16=true:=by
 intro F
 kernel_rfl
theorem w16 (G:Nat→D→D):o16.Valid Tryz.prog G:=Ad.val (okE _ []) (w0 G) k16
def o17:Orc:=
 {f:=284,args:=[(.slice 45 0 4 1),(.func (.func 285) [] [(.ptr 121 0)])],part:=(no (no .nil (no (no .nil (no .nil (no .nil (lf (.cells 5 (nd (.int .i64 (.ofNat 0)) y31 y34)))))) y4)) y33),nx:=122,ok:=true,v:=(.bool true),out:=(no (no .nil (no (no .nil (no .nil (no .nil (lf (.cells 5 (nd (.int .i64 (.ofNat 4)) y31 y34)))))) .nil)) y35),nx':=123,wr:=[44,121]}
theorem k17:∀[F:Facts],Ac (Env.ofS Tryz.prog [] []) 1000000 o17=true:=by
 intro F
 kernel_rfl
theorem w17 (G:Nat→D→D):o17.Valid Tryz.prog G:=Ad.val (okE _ []) (w0 G) k17
def o18:Orc:=
 {f:=308,args:=[(.ptr 44 0),(.int .i64 (.ofNat 416)),(.func (.func 319) [] [])],part:=y36,nx:=125,ok:=true,v:=(.int .i64 (.ofNat 1)),out:=y38,nx':=125,wr:=[44]}
theorem k18:∀[F:Facts],Ac (Env.ofS Tryz.prog [] []) 1000000 o18=true:=by
 intro F
 kernel_rfl
theorem w18 (G:Nat→D→D):o18.Valid Tryz.prog G:=Ad.val (okE _ []) (w0 G) k18
def o19:Orc:=
 {f:=282,args:=[(.ptr 44 0)],part:=y36,nx:=125,ok:=true,v:=(.tuple []),out:=y38,nx':=127,wr:=[44]}
theorem k19:∀[F:Facts],Ac (Env.ofS Tryz.prog [o18] []) 1000000 o19=true:=by
 intro F
 kernel_rfl
theorem w19 (G:Nat→D→D):o19.Valid Tryz.prog G:=Ad.val (okE _ []) (.cons (w18 G) (w0 G)) k19
def o20:Orc:=
 {f:=284,args:=[(.slice 45 0 4 1),(.func (.func 285) [] [(.ptr 127 0)])],part:=(no (no (no (no (no (no (no (lf (.cells 5 (nd (.int .i64 (.ofNat 0)) y31 y8))) .nil) .nil) .nil) .nil) .nil) y5) y37),nx:=128,ok:=true,v:=(.bool true),out:=(no (no (no (no (no (no (no (lf (.cells 5 (nd (.int .i64 (.ofNat 1)) y31 y8))) .nil) .nil) .nil) .nil) .nil) .nil) y39),nx':=128,wr:=[44,127]}
theorem k20:∀[F:Facts],Ac (Env.ofS Tryz.prog [] []) 1000000 o20=true:=by
 intro F
 kernel_rfl
theorem w20 (G:Nat→D→D):o20.Valid Tryz.prog G:=Ad.val (okE _ []) (w0 G) k20
def o21:Orc:=
 {f:=308,args:=[(.ptr 44 0),(.int .i64 (.ofNat 416)),(.func (.func 319) [] [])],part:=y40,nx:=130,ok:=true,v:=(.int .i64 (.ofNat 1)),out:=y42,nx':=130,wr:=[44]}
theorem k21:∀[F:Facts],Ac (Env.ofS Tryz.prog [] []) 1000000 o21=true:=by
 intro F
 kernel_rfl
theorem w21 (G:Nat→D→D):o21.Valid Tryz.prog G:=Ad.val (okE _ []) (w0 G) k21
def o22:Orc:=
 {f:=282,args:=[(.ptr 44 0)],part:=y40,nx:=130,ok:=true,v:=(.tuple []),out:=y42,nx':=132,wr:=[44]}
theorem k22:∀[F:Facts],Ac (Env.ofS Tryz.prog [o21] []) 1000000 o22=true:=by
 intro F
 kernel_rfl
theorem w22 (G:Nat→D→D):o22.Valid Tryz.prog G:=Ad.val (okE _ []) (.cons (w21 G) (w0 G)) k22
def o23:Orc:=
 {f:=284,args:=[(.slice 45 0 4 1),(.func (.func 285) [] [(.ptr 132 0)])],part:=(no y6 (no (no .nil (no (no (no (no (lf (.cells 5 (nd (.int .i64 (.ofNat 0)) y31 y14))) .nil) .nil) .nil) y41)) .nil)),nx:=133,ok:=true,v:=(.bool true),out:=(no .nil (no (no .nil (no (no (no (no (lf (.cells 5 (nd (.int .i64 (.ofNat 2)) y31 y14))) .nil) .nil) .nil) y43)) .nil)),nx':=135,wr:=[44,132]}
theorem k23:∀[F:Facts],Ac (Env.ofS Tryz.prog [] []) 1000000 o23=true:=by
 intro F
 kernel_rfl
theorem w23 (G:Nat→D→D):o23.Valid Tryz.prog G:=Ad.val (okE _ []) (w0 G) k23
def o24:Orc:=
 {f:=308,args:=[(.ptr 44 0),(.int .i64 (.ofNat 416)),(.func (.func 319) [] [])],part:=y44,nx:=137,ok:=true,v:=(.int .i64 (.ofNat 1)),out:=y46,nx':=137,wr:=[44]}
theorem k24:∀[F:Facts],Ac (Env.ofS Tryz.prog [] []) 1000000 o24=true:=by
 intro F
 kernel_rfl
theorem w24 (G:Nat→D→D):o24.Valid Tryz.prog G:=Ad.val (okE _ []) (w0 G) k24
def o25:Orc:=
 {f:=282,args:=[(.ptr 44 0)],part:=y44,nx:=137,ok:=true,v:=(.tuple []),out:=y46,nx':=139,wr:=[44]}
theorem k25:∀[F:Facts],Ac (Env.ofS Tryz.prog [o24] []) 1000000 o25=true:=by
 intro F
 kernel_rfl
theorem w25 (G:Nat→D→D):o25.Valid Tryz.prog G:=Ad.val (okE _ []) (.cons (w24 G) (w0 G)) k25
def o26:Orc:=
 {f:=284,args:=[(.slice 45 0 4 1),(.func (.func 285) [] [(.ptr 139 0)])],part:=(no (no (no .nil (no .nil (no (no (no (lf (.cells 5 (nd (.int .i64 (.ofNat 0)) y31 y19))) .nil) .nil) .nil))) y5) y45),nx:=140,ok:=true,v:=(.bool true),out:=(no (no (no .nil (no .nil (no (no (no (lf (.cells 5 (nd (.int .i64 (.ofNat 1)) y31 y19))) .nil) .nil) .nil))) .nil) y47),nx':=140,wr:=[44,139]}
theorem k26:∀[F:Facts],Ac (Env.ofS Tryz.prog [] []) 1000000 o26=true:=by
 intro F
 kernel_rfl
theorem w26 (G:Nat→D→D):o26.Valid Tryz.prog G:=Ad.val (okE _ []) (w0 G) k26
def o27:Orc:=
 {f:=308,args:=[(.ptr 44 0),(.int .i64 (.ofNat 416)),(.func (.func 319) [] [])],part:=y48,nx:=142,ok:=true,v:=(.int .i64 (.ofNat 1)),out:=y50,nx':=142,wr:=[44]}
theorem k27:∀[F:Facts],Ac (Env.ofS Tryz.prog [] []) 1000000 o27=true:=by
 intro F
 kernel_rfl
theorem w27 (G:Nat→D→D):o27.Valid Tryz.prog G:=Ad.val (okE _ []) (w0 G) k27
def o28:Orc:=
 {f:=282,args:=[(.ptr 44 0)],part:=y48,nx:=142,ok:=true,v:=(.tuple []),out:=y50,nx':=144,wr:=[44]}
theorem k28:∀[F:Facts],Ac (Env.ofS Tryz.prog [o27] []) 1000000 o28=true:=by
 intro F
 kernel_rfl
theorem w28 (G:Nat→D→D):o28.Valid Tryz.prog G:=Ad.val (okE _ []) (.cons (w27 G) (w0 G)) k28
def o29:Orc:=
 {f:=284,args:=[(.slice 45 0 4 1),(.func (.func 285) [] [(.ptr 144 0)])],part:=(no y6 (no (no (no (no .nil (no (no (lf (.cells 5 (nd (.int .i64 (.ofNat 0)) y31 y24))) .nil) .nil)) .nil) y49) .nil)),nx:=145,ok:=true,v:=(.bool true),out:=(no .nil (no (no (no (no .nil (no (no (lf (.cells 5 (nd (.int .i64 (.ofNat 2)) y31 (nd (.int .i64 (.ofNat 16)) (lf (.int .i64 (.ofNat 21))) .nil)))) .nil) .nil)) .nil) y51) .nil)),nx':=147,wr:=[44,144]}
theorem k29:∀[F:Facts],Ac (Env.ofS Tryz.prog [] []) 1000000 o29=true:=by
 intro F
 kernel_rfl
theorem w29 (G:Nat→D→D):o29.Valid Tryz.prog G:=Ad.val (okE _ []) (w0 G) k29
def o30:Orc:=
 {f:=282,args:=[(.ptr 44 0)],part:=(no .nil (no y52 .nil)),nx:=149,ok:=true,v:=(.tuple []),out:=.nil,nx':=150,wr:=[]}
theorem k30:∀[F:Facts],Ac (Env.ofS Tryz.prog [] []) 1000000 o30=true:=by
 intro F
 kernel_rfl
theorem w30 (G:Nat→D→D):o30.Valid Tryz.prog G:=Ad.val (okE _ []) (w0 G) k30
def o31:Orc:=
 {f:=284,args:=[(.slice 45 0 4 1),(.func (.func 285) [] [(.ptr 150 0)])],part:=(no y6 (no y52 (no .nil (no (no .nil (no (no (lf (.cells 5 (nd (.int .i64 (.ofNat 0)) y31 y53))) .nil) .nil)) .nil)))),nx:=151,ok:=true,v:=(.bool true),out:=(no .nil (no y54 (no .nil (no (no .nil (no (no (lf (.cells 5 (nd (.int .i64 (.ofNat 4)) y31 y53))) .nil) .nil)) .nil)))),nx':=152,wr:=[44,150]}
theorem k31:∀[F:Facts],Ac (Env.ofS Tryz.prog [] []) 1000000 o31=true:=by
 intro F
 kernel_rfl
theorem w31 (G:Nat→D→D):o31.Valid Tryz.prog G:=Ad.val (okE _ []) (w0 G) k31
def o32:Orc:=
 {f:=308,args:=[(.ptr 44 0),(.int .i64 (.ofNat 416)),(.func (.func 319) [] [])],part:=y55,nx:=154,ok:=true,v:=(.int .i64 (.ofNat 1)),out:=y57,nx':=154,wr:=[44]}
theorem k32:∀[F:Facts],Ac (Env.ofS Tryz.prog [] []) 1000000 o32=true:=by
 intro F
 kernel_rfl
theorem w32 (G:Nat→D→D):o32.Valid Tryz.prog G:=Ad.val (okE _ []) (w0 G) k32
def o33:Orc:=
 {f:=282,args:=[(.ptr 44 0)],part:=y55,nx:=154,ok:=true,v:=(.tuple []),out:=y57,nx':=156,wr:=[44]}
theorem k33:∀[F:Facts],Ac (Env.ofS Tryz.prog [o32] []) 1000000 o33=true:=by
 intro F
 kernel_rfl
theorem w33 (G:Nat→D→D):o33.Valid Tryz.prog G:=Ad.val (okE _ []) (.cons (w32 G) (w0 G)) k33
def o34:Orc:=
 {f:=284,args:=[(.slice 45 0 4 1),(.func (.func 285) [] [(.ptr 156 0)])],part:=(no y6 (no (no .nil (no .nil (no y56 (no (no (lf (.cells 5 (nd (.int .i64 (.ofNat 0)) y58 y59))) .nil) .nil)))) .nil)),nx:=157,ok:=true,v:=(.bool true),out:=(no .nil (no (no .nil (no .nil (no y60 (no (no (lf (.cells 5 (nd (.int .i64 (.ofNat 4)) y58 y59))) .nil) .nil)))) .nil)),nx':=158,wr:=[44,156]}
theorem k34:∀[F:Facts],Ac (Env.ofS Tryz.prog [] []) 1000000 o34=true:=by
 intro F
 kernel_rfl
theorem w34 (G:Nat→D→D):o34.Valid Tryz.prog G:=Ad.val (okE _ []) (w0 G) k34
def o35:Orc:=
 {f:=308,args:=[(.ptr 44 0),(.int .i64 (.ofNat 416)),(.func (.func 319) [] [])],part:=y61,nx:=160,ok:=true,v:=(.int .i64 (.ofNat 1)),out:=y63,nx':=160,wr:=[44]}
theorem k35:∀[F:Facts],Ac (Env.ofS Tryz.prog [] []) 1000000 o35=true:=by
 intro F
 kernel_rfl
theorem w35 (G:Nat→D→D):o35.Valid Tryz.prog G:=Ad.val (okE _ []) (w0 G) k35
def o36:Orc:=
 {f:=282,args:=[(.ptr 44 0)],part:=y61,nx:=160,ok:=true,v:=(.tuple []),out:=y63,nx':=162,wr:=[44]}
theorem k36:∀[F:Facts],Ac (Env.ofS Tryz.prog [o35] []) 1000000 o36=true:=by
 intro F
 kernel_rfl
theorem w36 (G:Nat→D→D):o36.Valid Tryz.prog G:=Ad.val (okE _ []) (.cons (w35 G) (w0 G)) k36
def o37:Orc:=
 {f:=284,args:=[(.slice 45 0 4 1),(.func (.func 285) [] [(.ptr 162 0)])],part:=(no y6 (no y62 (no (no (no (no .nil (no (lf (.cells 5 (nd (.int .i64 (.ofNat 0)) y64 y59))) .nil)) .nil) .nil) .nil))),nx:=163,ok:=true,v:=(.bool true),out:=(no .nil (no y65 (no (no (no (no .nil (no (lf (.cells 5 (nd (.int .i64 (.ofNat 1)) y64 y59))) .nil)) .nil) .nil) .nil))),nx':=163,wr:=[44,162]}
theorem k37:∀[F:Facts],Ac (Env.ofS Tryz.prog [] []) 1000000 o37=true:=by
 intro F
 kernel_rfl
theorem w37 (G:Nat→D→D):o37.Valid Tryz.prog G:=Ad.val (okE _ []) (w0 G) k37
def o38:Orc:=
 {f:=308,args:=[(.ptr 44 0),(.int .i64 (.ofNat 416)),(.func (.func 319) [] [])],part:=y66,nx:=165,ok:=true,v:=(.int .i64 (.ofNat 1)),out:=y68,nx':=165,wr:=[44]}
theorem k38:∀[F:Facts],Ac (Env.ofS Tryz.prog [] []) 1000000 o38=true:=by
 intro F
 kernel_rfl
theorem w38 (G:Nat→D→D):o38.Valid Tryz.prog G:=Ad.val (okE _ []) (w0 G) k38
def o39:Orc:=
 {f:=282,args:=[(.ptr 44 0)],part:=y66,nx:=165,ok:=true,v:=(.tuple []),out:=y68,nx':=167,wr:=[44]}
theorem k39:∀[F:Facts],Ac (Env.ofS Tryz.prog [o38] []) 1000000 o39=true:=by
 intro F
 kernel_rfl
theorem w39 (G:Nat→D→D):o39.Valid Tryz.prog G:=Ad.val (okE _ []) (.cons (w38 G) (w0 G)) k39
def o40:Orc:=
 {f:=284,args:=[(.slice 45 0 4 1),(.func (.func 285) [] [(.ptr 167 0)])],part:=(no (no (no (no .nil (no (no .nil (no (lf (.cells 5 (nd (.int .i64 (.ofNat 0)) y64 y8))) .nil)) .nil)) .nil) y5) y67),nx:=168,ok:=true,v:=(.bool true),out:=(no (no (no (no .nil (no (no .nil (no (lf (.cells 5 (nd (.int .i64 (.ofNat 1)) y64 y8))) .nil)) .nil)) .nil) .nil) y69),nx':=168,wr:=[44,167]}
theorem k40:∀[F:Facts],Ac (Env.ofS Tryz.prog [] []) 1000000 o40=true:=by
 intro F
 kernel_rfl
theorem w40 (G:Nat→D→D):o40.Valid Tryz.prog G:=Ad.val (okE _ []) (w0 G) k40
def o41:Orc:=
 {f:=308,args:=[(.ptr 44 0),(.int .i64 (.ofNat 416)),(.func (.func 319) [] [])],part:=y70,nx:=170,ok:=true,v:=(.int .i64 (.ofNat 1)),out:=y72,nx':=170,wr:=[44]}
theorem k41:∀[F:Facts],Ac (Env.ofS Tryz.prog [] []) 1000000 o41=true:=by
 intro F
 kernel_rfl
theorem w41 (G:Nat→D→D):o41.Valid Tryz.prog G:=Ad.val (okE _ []) (w0 G) k41
def o42:Orc:=
 {f:=282,args:=[(.ptr 44 0)],part:=y70,nx:=170,ok:=true,v:=(.tuple []),out:=y72,nx':=172,wr:=[44]}
theorem k42:∀[F:Facts],Ac (Env.ofS Tryz.prog [o41] []) 1000000 o42=true:=by
 intro F
 kernel_rfl
theorem w42 (G:Nat→D→D):o42.Valid Tryz.prog G:=Ad.val (okE _ []) (.cons (w41 G) (w0 G)) k42
def o43:Orc:=
 {f:=284,args:=[(.slice 45 0 4 1),(.func (.func 285) [] [(.ptr 172 0)])],part:=(no y6 (no (no .nil (no .nil (no (nd y71 .nil (no (lf (.cells 5 (nd (.int .i64 (.ofNat 0)) y64 y14))) .nil)) .nil))) .nil)),nx:=173,ok:=true,v:=(.bool true),out:=(no .nil (no (no .nil (no .nil (no (nd y73 .nil (no (lf (.cells 5 (nd (.int .i64 (.ofNat 4)) y64 y14))) .nil)) .nil))) .nil)),nx':=174,wr:=[44,172]}
theorem k43:∀[F:Facts],Ac (Env.ofS Tryz.prog [] []) 1000000 o43=true:=by
 intro F
 kernel_rfl
theorem w43 (G:Nat→D→D):o43.Valid Tryz.prog G:=Ad.val (okE _ []) (w0 G) k43
def o44:Orc:=
 {f:=308,args:=[(.ptr 44 0),(.int .i64 (.ofNat 416)),(.func (.func 319) [] [])],part:=y74,nx:=176,ok:=true,v:=(.int .i64 (.ofNat 3)),out:=y76,nx':=176,wr:=[44]}
theorem k44:∀[F:Facts],Ac (Env.ofS Tryz.prog [] []) 1000000 o44=true:=by
 intro F
 kernel_rfl
theorem w44 (G:Nat→D→D):o44.Valid Tryz.prog G:=Ad.val (okE _ []) (w0 G) k44
def o45:Orc:=
 {f:=282,args:=[(.ptr 44 0)],part:=y74,nx:=176,ok:=true,v:=(.tuple []),out:=y76,nx':=178,wr:=[44]}
theorem k45:∀[F:Facts],Ac (Env.ofS Tryz.prog [o44] []) 1000000 o45=true:=by
 intro F
 kernel_rfl
theorem w45 (G:Nat→D→D):o45.Valid Tryz.prog G:=Ad.val (okE _ []) (.cons (w44 G) (w0 G)) k45
def o46:Orc:=
 {f:=284,args:=[(.slice 45 0 4 1),(.func (.func 285) [] [(.ptr 178 0)])],part:=(no y6 (no y75 (no (no (no .nil (no .nil (no (lf (.cells 5 (nd (.int .i64 (.ofNat 0)) y77 y32))) .nil))) .nil) .nil))),nx:=179,ok:=true,v:=(.bool true),out:=(no .nil (no y78 (no (no (no .nil (no .nil (no (lf (.cells 5 (nd (.int .i64 (.ofNat 1)) y77 y32))) .nil))) .nil) .nil))),nx':=179,wr:=[44,178]}
theorem k46:∀[F:Facts],Ac (Env.ofS Tryz.prog [] []) 1000000 o46=true:=by
 intro F
 kernel_rfl
theorem w46 (G:Nat→D→D):o46.Valid Tryz.prog G:=Ad.val (okE _ []) (w0 G) k46
def o47:Orc:=
 {f:=282,args:=[(.ptr 44 0)],part:=(no .nil (no y78 .nil)),nx:=181,ok:=true,v:=(.tuple []),out:=.nil,nx':=182,wr:=[]}
theorem k47:∀[F:Facts],Ac (Env.ofS Tryz.prog [] []) 1000000 o47=true:=by
 intro F
 kernel_rfl
theorem w47 (G:Nat→D→D):o47.Valid Tryz.prog G:=Ad.val (okE _ []) (w0 G) k47
def o48:Orc:=
 {f:=284,args:=[(.slice 45 0 4 1),(.func (.func 285) [] [(.ptr 182 0)])],part:=(no y6 (no y78 (no .nil (no (no .nil (no .nil (no (lf (.cells 5 (nd (.int .i64 (.ofNat 0)) y77 y8))) .nil))) .nil)))),nx:=183,ok:=true,v:=(.bool true),out:=(no .nil (no y79 (no .nil (no (no .nil (no .nil (no (lf (.cells 5 (nd (.int .i64 (.ofNat 4)) y77 y8))) .nil))) .nil)))),nx':=184,wr:=[44,182]}
theorem k48:∀[F:Facts],Ac (Env.ofS Tryz.prog [] []) 1000000 o48=true:=by
 intro F
 kernel_rfl
theorem w48 (G:Nat→D→D):o48.Valid Tryz.prog G:=Ad.val (okE _ []) (w0 G) k48
def o49:Orc:=
 {f:=308,args:=[(.ptr 44 0),(.int .i64 (.ofNat 416)),(.func (.func 319) [] [])],part:=y80,nx:=186,ok:=true,v:=(.int .i64 (.ofNat 1)),out:=y82,nx':=186,wr:=[44]}
theorem k49:∀[F:Facts],Ac (Env.ofS Tryz.prog [] []) 1000000 o49=true:=by
 intro F
 kernel_rfl
theorem w49 (G:Nat→D→D):o49.Valid Tryz.prog G:=Ad.val (okE _ []) (w0 G) k49
def o50:Orc:=
 {f:=282,args:=[(.ptr 44 0)],part:=y80,nx:=186,ok:=true,v:=(.tuple []),out:=y82,nx':=188,wr:=[44]}
theorem k50:∀[F:Facts],Ac (Env.ofS Tryz.prog [o49] []) 1000000 o50=true:=by
 intro F
 kernel_rfl
theorem w50 (G:Nat→D→D):o50.Valid Tryz.prog G:=Ad.val (okE _ []) (.cons (w49 G) (w0 G)) k50
def o51:Orc:=
 {f:=284,args:=[(.slice 45 0 4 1),(.func (.func 285) [] [(.ptr 188 0)])],part:=(no y6 (no (no .nil (no .nil (no y81 (no .nil (no (lf (.cells 5 (nd (.int .i64 (.ofNat 0)) y77 y83))) .nil))))) .nil)),nx:=189,ok:=true,v:=(.bool true),out:=(no .nil (no (no .nil (no .nil (no y84 (no .nil (no (lf (.cells 5 (nd (.int .i64 (.ofNat 1)) y77 y83))) .nil))))) .nil)),nx':=189,wr:=[44,188]}
theorem k51:∀[F:Facts],Ac (Env.ofS Tryz.prog [] []) 1000000 o51=true:=by
 intro F
 kernel_rfl
theorem w51 (G:Nat→D→D):o51.Valid Tryz.prog G:=Ad.val (okE _ []) (w0 G) k51
def o52:Orc:=
 {f:=308,args:=[(.ptr 44 0),(.int .i64 (.ofNat 416)),(.func (.func 319) [] [])],part:=y85,nx:=191,ok:=true,v:=(.int .i64 (.ofNat 1)),out:=y87,nx':=191,wr:=[44]}
theorem k52:∀[F:Facts],Ac (Env.ofS Tryz.prog [] []) 1000000 o52=true:=by
 intro F
 kernel_rfl
theorem w52 (G:Nat→D→D):o52.Valid Tryz.prog G:=Ad.val (okE _ []) (w0 G) k52
def o53:Orc:=
 {f:=282,args:=[(.ptr 44 0)],part:=y85,nx:=191,ok:=true,v:=(.tuple []),out:=y87,nx':=193,wr:=[44]}
theorem k53:∀[F:Facts],Ac (Env.ofS Tryz.prog [o52] []) 1000000 o53=true:=by
 intro F
 kernel_rfl
theorem w53 (G:Nat→D→D):o53.Valid Tryz.prog G:=Ad.val (okE _ []) (.cons (w52 G) (w0 G)) k53
def o54:Orc:=
 {f:=284,args:=[(.slice 45 0 4 1),(.func (.func 285) [] [(.ptr 193 0)])],part:=(no (no .nil (no (no (no (no (no .nil (lf (.cells 5 (nd (.int .i64 (.ofNat 0)) y77 y88)))) .nil) .nil) .nil) y4)) y86),nx:=194,ok:=true,v:=(.bool true),out:=(no (no .nil (no (no (no (no (no .nil (lf (.cells 5 (nd (.int .i64 (.ofNat 2)) y77 y89)))) .nil) .nil) .nil) .nil)) y90),nx':=196,wr:=[44,193]}
theorem k54:∀[F:Facts],Ac (Env.ofS Tryz.prog [] []) 1000000 o54=true:=by
 intro F
 kernel_rfl
theorem w54 (G:Nat→D→D):o54.Valid Tryz.prog G:=Ad.val (okE _ []) (w0 G) k54
def o55:Orc:=
 {f:=308,args:=[(.ptr 44 0),(.int .i64 (.ofNat 416)),(.func (.func 319) [] [])],part:=y91,nx:=198,ok:=true,v:=(.int .i64 (.ofNat 1)),out:=y93,nx':=198,wr:=[44]}
theorem k55:∀[F:Facts],Ac (Env.ofS Tryz.prog [] []) 1000000 o55=true:=by
 intro F
 kernel_rfl
theorem w55 (G:Nat→D→D):o55.Valid Tryz.prog G:=Ad.val (okE _ []) (w0 G) k55
def o56:Orc:=
 {f:=282,args:=[(.ptr 44 0)],part:=y91,nx:=198,ok:=true,v:=(.tuple []),out:=y93,nx':=200,wr:=[44]}
theorem k56:∀[F:Facts],Ac (Env.ofS Tryz.prog [o55] []) 1000000 o56=true:=by
 intro F
 kernel_rfl
theorem w56 (G:Nat→D→D):o56.Valid Tryz.prog G:=Ad.val (okE _ []) (.cons (w55 G) (w0 G)) k56
end Go.Proofs.YtmjeljjkhblgeaaGreatDoor.familySessions

