/- What is proved: that certain calls which the law FamilyDefines makes come to the results that are written here (part 11 of 16). Conditions: the memory that such a call reaches is as written here; the kernel runs the evaluator over each. -/
import Derived.Test.YtmjeljjkhblgeaaGreatDoorFamilyDefinesKnownA
import Derived.Test.YtmjeljjkhblgeaaGreatDoorFamilyDefinesKnownC
set_option linter.unusedVariables false
set_option linter.unusedSectionVars false
set_option linter.unusedSimpArgs false
namespace Go.Proofs.YtmjeljjkhblgeaaGreatDoor.familyDefines
open Go.AE
noncomputable def Aan:Cor:=
 {f:=252,nt:=72,td:=(Aj (Env.of Tryz.prog) 252 2),tmps:=(nd (pN 4116) (no (nd DC (nd IF Ly (nd (pN 4116) jm AA)) (nd Ju (nd (pN 4116) (nd (pN 4116) (lf (.slice 4536 0 77 5)) .nil) L5) (nd (iN 293) K4 xh))) (nd (iN 260) (nd J9 (nd (pN 4116) (lf (.agg [(iN 13),(iN 21)])) AA) (nd (pN 4116) AA (lf (iN 262)))) (nd Iy (nd (iN 260) (nd (pN 4116) (lf (.slice 4540 0 1 5)) .nil) AA) V7))) (nd rf (nd (pN 4539) Lo (nd (pN 4116) (nd DD (nd (pN 4116) (lf (.agg [(iN 1),(.str 2 26223),(iN 0),(iN 13),(iN 21)])) .nil) jm) rv)) (nd (pN 4116) (nd (pN 4116) (nd (pN 4116) (lf (.agg [(iN 0),(.str 0 0),(iN 0),(iN 13),(iN 21)])) AA) (nd CJ AA cI)) (nd DC (nd (pN 4116) (nd DD (lf rf) .nil) AA) LI)))),part:=(no (no (no .nil (no .nil nS)) (no .nil (no Ta (no .nil (no .nil (no (no .nil (no .nil (no (no (no (lf (ceL 390 [IX,BK,J1,IE,F1,LH,GO,Lh,L6,NK,Nl,OP,OG,OE,NX,P6,Qh,P3,PT,TA,FY,UK,T9,TU,Zj,Zb,Y0,YD,Zv,cT,eW,gN,cU,gV,su,qt,ug,qS,tD])) .nil) .nil) .nil))) .nil)))))) (no (no .nil (no (no .nil (no (no (no (no (no (no (no (lf (.cells 4 (nd CJ (nd (iN 262) Hk .nil) PK))) .nil) .nil) .nil) .nil) .nil) .nil) .nil)) nS)) .nil)),nx:=4542,ok:=true,v:=Jp,out:=JQ,nx':=4587,wr:=[4116,4541]}
theorem Ax5:∀[F:Facts],An (Env.ofS Tryz.prog [] []) noB 1000000 Aan=true:=by
 intro F
 kernel_rfl
theorem Auv (G:Nat→D→D):Aan.Valid Tryz.prog G:=Cor.last (okE _ []) (w0 G) Ax5
noncomputable def Ac2:Cor:=
 {f:=252,nt:=72,td:=(Aj (Env.of Tryz.prog) 252 2),tmps:=(nd (pN 4116) (no (nd DC (nd IF Ly (nd (pN 4116) sD AA)) (nd Ju (nd (pN 4116) (nd (pN 4116) (lf (.slice 4483 0 67 5)) .nil) L5) (nd (iN 293) K4 (lf (.ptr 4486 1))))) (nd (iN 232) (nd J9 (nd (pN 4116) (lf (.agg [(iN 12),(iN 17)])) AA) (nd (pN 4116) AA gk)) (nd Iy (nd (iN 232) (nd (pN 4116) (lf (.slice 4489 0 1 5)) .nil) AA) kh))) (nd wP (nd (pN 4486) Lo (nd (pN 4116) (nd DD (nd (pN 4116) (lf (.agg [(iN 2),(.str 1 53),(iN 5),(iN 12),(iN 17)])) .nil) sD) (nd y21 (lf (.func (.func 285) [] [(pN 4486)])) (lf (pN 4486))))) (nd (pN 4116) (nd (pN 4116) (nd (pN 4116) (lf (.agg [(iN 0),(.str 0 0),(iN 0),(iN 12),(iN 17)])) AA) (nd CJ AA (lf Nh))) (nd DC (nd (pN 4116) (nd DD (lf wP) .nil) AA) LI)))),part:=(no (no .nil (no (no .nil sE) (no Ta .nil))) (no (no .nil (no (no .nil (no (no (no (no (no (no (no (lf (.cells 4 (nd CJ (nd (iN 233) Hb .nil) Pz))) .nil) .nil) .nil) .nil) .nil) .nil) .nil)) .nil)) (no (no .nil (no (no (no (no .nil (no .nil (no (no (no (lf (ceL 340 [IX,BK,J1,IE,F1,LH,GO,Lh,L6,NK,Nl,OP,OG,OE,NX,P6,Qh,P3,PT,TA,FY,UK,T9,TU,Zj,Zb,Y0,YD,Zv,cT,eW,gN,cU,gV])) .nil) .nil) .nil))) .nil) .nil) .nil)) (no sE .nil)))),nx:=4491,ok:=true,v:=Jp,out:=JQ,nx':=4587,wr:=[4116,4490]}
theorem Aux:∀[F:Facts],An (Env.ofS Tryz.prog [] []) Aan.base 644 Ac2=true:=by
 intro F
 kernel_rfl
theorem Aus (G:Nat→D→D):Ac2.Valid Tryz.prog G:=Cor.next (okE _ []) (w0 G) (Auv G) Aux
noncomputable def Aap:Cor:=
 {f:=252,nt:=72,td:=(Aj (Env.of Tryz.prog) 252 2),tmps:=(nd (pN 4116) (no (nd DC (nd IF Ly (nd (pN 4116) YE AA)) (nd Ju (nd (pN 4116) (nd (pN 4116) (lf (.slice 4426 0 57 5)) .nil) L5) (nd (iN 293) K4 (lf (.ptr 4429 1))))) (nd (iN 203) (nd J9 (nd (pN 4116) (lf (.agg [(iN 11),(iN 10)])) AA) (nd (pN 4116) AA (lf (iN 207)))) (nd Iy (nd (iN 203) (nd (pN 4116) (lf (.slice 4430 0 1 5)) .nil) AA) V7))) (nd xo (nd (pN 4429) Lo (nd (pN 4116) (nd DD (nd (pN 4116) (lf (.agg [(iN 1),(.str 4 1953393013),(iN 0),(iN 11),(iN 10)])) .nil) YE) (nd y21 (lf (.func (.func 285) [] [(pN 4429)])) (lf (pN 4429))))) (nd (pN 4116) (nd (pN 4116) (nd (pN 4116) (lf (.agg [(iN 0),(.str 0 0),(iN 0),(iN 11),(iN 10)])) AA) (nd CJ AA zu)) (nd DC (nd (pN 4116) (nd DD (lf xo) .nil) AA) LI)))),part:=(no (no (no (no (no .nil (no (no .nil (no (no .nil (no (no (no (lf (ceL 290 [IX,BK,J1,IE,F1,LH,GO,Lh,L6,NK,Nl,OP,OG,OE,NX,P6,Qh,P3,PT,TA,FY,UK,T9,TU,Zj,Zb,Y0,YD,Zv])) .nil) .nil) .nil)) .nil)) .nil)) .nil) .nil) (no .nil (no Ta u9))) (no (no .nil (no (no .nil (no (no (no (no (no (no (no (lf (.cells 4 (nd CJ (nd (iN 207) GF .nil) Ud))) .nil) .nil) .nil) .nil) .nil) .nil) .nil)) .nil)) (no .nil (no .nil u9)))),nx:=4432,ok:=true,v:=Jp,out:=JQ,nx':=4587,wr:=[4116,4431]}
theorem Ayl:∀[F:Facts],An (Env.ofS Tryz.prog [] []) Ac2.base 726 Aap=true:=by
 intro F
 kernel_rfl
theorem Aw2 (G:Nat→D→D):Aap.Valid Tryz.prog G:=Cor.next (okE _ []) (w0 G) (Aus G) Ayl
noncomputable def Aat:Cor:=
 {f:=252,nt:=72,td:=(Aj (Env.of Tryz.prog) 252 2),tmps:=(nd (pN 4116) (no (nd DC (nd IF Ly (nd (pN 4116) l4 AA)) (nd Ju (nd (pN 4116) (nd (pN 4116) (lf (.slice 4376 0 48 5)) .nil) L5) (nd (iN 293) K4 (lf (.ptr 4379 1))))) (nd (iN 174) (nd J9 (nd (pN 4116) (lf (.agg [(iN 10),(iN 3)])) AA) (nd (pN 4116) AA px)) (nd Iy (nd (iN 174) (nd (pN 4116) (lf (.slice 4380 0 1 5)) .nil) AA) V7))) (nd v8 (nd (pN 4379) Lo (nd (pN 4116) (nd DD (nd (pN 4116) (lf (.agg [(iN 1),(.str 5 tN),(iN 0),(iN 10),(iN 3)])) .nil) l4) (nd y21 (lf (.func (.func 285) [] [(pN 4379)])) (lf (pN 4379))))) (nd (pN 4116) (nd (pN 4116) (nd (pN 4116) (lf (.agg [(iN 0),(.str 0 0),(iN 0),(iN 10),(iN 3)])) AA) (nd CJ AA (lf Q1))) (nd DC (nd (pN 4116) (nd DD um .nil) AA) LI)))),part:=(no (no (no .nil (no .nil pd)) (no .nil (no Ta (no .nil (no (no (no (no .nil (no (no (no (lf (ceL 245 [IX,BK,J1,IE,F1,LH,GO,Lh,L6,NK,Nl,OP,OG,OE,NX,P6,Qh,P3,PT,TA,FY,UK,T9,TU,[(iN 1),Q1,(iN 0),(iN 10),(iN 3)]])) .nil) .nil) .nil)) .nil) .nil) .nil))))) (no (no .nil (no (no .nil (no (no (no (no (no (no (no (lf (.cells 4 (nd CJ (nd (iN 179) Fr .nil) Nn))) .nil) .nil) .nil) .nil) .nil) .nil) .nil)) pd)) .nil)),nx:=4382,ok:=true,v:=Jp,out:=JQ,nx':=4587,wr:=[4116,4381]}
theorem Awa:∀[F:Facts],An (Env.ofS Tryz.prog [] []) Aap.base 678 Aat=true:=by
 intro F
 kernel_rfl
theorem Avv (G:Nat→D→D):Aat.Valid Tryz.prog G:=Cor.next (okE _ []) (w0 G) (Aw2 G) Awa
noncomputable def zF:Cor:=
 {f:=252,nt:=72,td:=(Aj (Env.of Tryz.prog) 252 2),tmps:=(nd (pN 4116) (no (nd DC (nd IF Ly (nd (pN 4116) oK AA)) (nd Ju (nd (pN 4116) (nd (pN 4116) (lf (.slice 4320 0 38 5)) .nil) L5) (nd (iN 293) K4 rZ))) (nd (iN 140) (nd J9 (nd (pN 4116) (lf (.agg [(iN 8),(iN 9)])) AA) (nd (pN 4116) AA xr)) (nd Iy (nd (iN 140) (nd (pN 4116) vV .nil) AA) V7))) (nd vu (nd (pN 4323) Lo (nd (pN 4116) (nd DD (nd (pN 4116) (lf (.agg [(iN 1),(.str 6 EQ),(iN 0),(iN 8),(iN 9)])) .nil) oK) vL)) (nd (pN 4116) (nd (pN 4116) (nd (pN 4116) (lf (.agg [(iN 0),(.str 0 0),(iN 0),(iN 8),(iN 9)])) AA) (nd CJ AA Lg)) (nd DC (nd (pN 4116) (nd DD (lf vu) .nil) AA) LI)))),part:=(no (no (no .nil (no (no uP .nil) .nil)) (no .nil (no (no (no .nil (no .nil (no .nil (no (no (no (no (lf (ceL 195 [IX,BK,J1,IE,F1,LH,GO,Lh,L6,NK,Nl,OP,OG,OE,NX,P6,Qh,P3,PT,[(iN 1),Fi,(iN 0),(iN 8),(iN 9)]])) .nil) .nil) .nil) .nil)))) fL) .nil))) (no (no .nil (no (no uP (no (no (no (no (no (no (no (lf (.cells 4 (nd CJ (nd (iN 146) Pl .nil) Fr))) .nil) .nil) .nil) .nil) .nil) .nil) .nil)) .nil)) .nil)),nx:=4326,ok:=true,v:=Jp,out:=JQ,nx':=4587,wr:=[4116,4325]}
theorem Att:∀[F:Facts],An (Env.ofS Tryz.prog [] []) Aat.base 726 zF=true:=by
 intro F
 kernel_rfl
theorem ABa (G:Nat→D→D):zF.Valid Tryz.prog G:=Cor.next (okE _ []) (w0 G) (Avv G) Att
noncomputable def Abb:Cor:=
 {f:=252,nt:=72,td:=(Aj (Env.of Tryz.prog) 252 2),tmps:=(nd (pN 4116) (no (nd DC (nd IF Ly (nd (pN 4116) kR AA)) (nd Ju (nd (pN 4116) (nd (pN 4116) (lf (.slice 4272 0 29 5)) .nil) L5) (nd (iN 293) K4 (lf (.ptr 4275 1))))) (nd (iN 106) (nd J9 (nd (pN 4116) (lf (.agg [(iN 6),(iN 3)])) AA) (nd (pN 4116) AA Ad2)) (nd Iy (nd (iN 106) (nd (pN 4116) (lf (.slice 4276 0 1 5)) .nil) AA) V7))) (nd nW (nd (pN 4275) Lo (nd (pN 4116) (nd DD (nd (pN 4116) (lf (.agg [(iN 1),(.str 3 7173491),(iN 0),(iN 6),(iN 3)])) .nil) kR) (nd y21 (lf (.func (.func 285) [] [(pN 4275)])) (lf (pN 4275))))) (nd (pN 4116) (nd (pN 4116) (nd (pN 4116) (lf (.agg [(iN 0),(.str 0 0),(iN 0),(iN 6),(iN 3)])) AA) (nd CJ AA (lf E9))) (nd DC (nd (pN 4116) (nd DD (lf nW) .nil) AA) LI)))),part:=(no (no (no .nil (no (no .nil (no .nil rF)) .nil)) (no .nil (no (no .nil (no tf (no (no .nil (no (no (no (no (lf (ceL 150 [IX,BK,J1,IE,F1,LH,GO,Lh,L6,NK,Nl,OP,OG,OE,NX])) .nil) .nil) .nil) .nil)) .nil))) .nil))) (no (no .nil (no (no .nil (no (no (no (no (no (no (no (lf (.cells 4 (nd CJ (nd (iN 109) TF .nil) TF))) .nil) .nil) .nil) .nil) .nil) .nil) rF)) .nil)) .nil)),nx:=4278,ok:=true,v:=Jp,out:=JQ,nx':=4587,wr:=[4116,4277]}
theorem Av3:∀[F:Facts],An (Env.ofS Tryz.prog [] []) zF.base 719 Abb=true:=by
 intro F
 kernel_rfl
theorem ABr (G:Nat→D→D):Abb.Valid Tryz.prog G:=Cor.next (okE _ []) (w0 G) (ABa G) Av3
noncomputable def yK:Cor:=
 {f:=252,nt:=72,td:=(Aj (Env.of Tryz.prog) 252 2),tmps:=(nd (pN 4116) (no (nd DC (nd IF Ly (nd (pN 4116) sU AA)) (nd Ju (nd (pN 4116) (nd (pN 4116) ro .nil) L5) (nd (iN 293) K4 vT))) (nd (iN 74) (nd J9 (nd (pN 4116) Ag9 AA) (nd (pN 4116) AA (lf (iN 75)))) (nd Iy (nd (iN 74) (nd (pN 4116) rJ .nil) AA) kh))) (nd iZ (nd (pN 4217) Lo (nd (pN 4116) (nd DD (nd (pN 4116) Aku .nil) sU) qJ)) (nd (pN 4116) (nd (pN 4116) (nd (pN 4116) Apz AA) (nd CJ AA aZ)) (nd DC (nd (pN 4116) (nd DD rM .nil) AA) LI)))),part:=(no (no .nil (no (no .nil Adp) (no Ta (no .nil (no .nil (no .nil (no (no (no (no (no (lf (ceL 95 [IX,BK,J1,IE,F1,LH,GO,Lh,L6,[(iN 2),y49,(iN 0),(iN 4),(iN 17)]])) .nil) .nil) .nil) .nil) .nil))))))) (no (no .nil (no (no .nil (no (no (no (no (no (no (no (lf (.cells 4 (nd CJ (nd (iN 75) Hb .nil) y15))) .nil) .nil) .nil) .nil) .nil) .nil) .nil)) Adp)) .nil)),nx:=4222,ok:=true,v:=Jp,out:=JQ,nx':=4587,wr:=[4116,4221]}
theorem Avs:∀[F:Facts],An (Env.ofS Tryz.prog [] []) Abb.base 692 yK=true:=by
 intro F
 kernel_rfl
theorem Atg (G:Nat→D→D):yK.Valid Tryz.prog G:=Cor.next (okE _ []) (w0 G) (ABr G) Avs
noncomputable def Ab5:Cor:=
 {f:=252,nt:=72,td:=(Aj (Env.of Tryz.prog) 252 2),tmps:=(nd (pN 4116) (no (nd DC (nd IF Ly (nd (pN 4116) Aa5 AA)) (nd Ju (nd (pN 4116) (nd (pN 4116) (lf (.slice 4162 0 9 5)) .nil) L5) (nd (iN 293) K4 (lf (.ptr 4165 1))))) (nd (iN 48) (nd J9 (nd (pN 4116) (lf (.agg [(iN 3),(iN 14)])) AA) (nd (pN 4116) AA (lf (iN 49)))) (nd Iy (nd (iN 48) (nd (pN 4116) (lf (.slice 4168 0 1 5)) .nil) AA) kh))) (nd oE (nd (pN 4165) Lo (nd (pN 4116) (nd DD (nd (pN 4116) (lf (.agg [(iN 2),(.str 1 56),(iN 8),(iN 3),(iN 14)])) .nil) Aa5) (nd y21 (lf (.func (.func 285) [] [(pN 4165)])) (lf (pN 4165))))) (nd (pN 4116) (nd (pN 4116) (nd (pN 4116) (lf (.agg [(iN 0),(.str 0 0),(iN 0),(iN 3),(iN 14)])) AA) (nd CJ AA FZ)) (nd DC (nd (pN 4116) (nd DD (lf oE) .nil) AA) LI)))),part:=(no (no .nil (no (no .nil (no (no (no .nil (no (no (no (no (no (lf (ceL 50 [IX,BK,J1,IE,F1])) .nil) .nil) .nil) .nil) .nil)) .nil) .nil)) (no (no nK fL) .nil))) (no (no (no .nil (no nK .nil)) (no (no .nil (no (no (no (no (no (no (no (lf (.cells 4 (nd CJ (nd (iN 49) Pl .nil) PN))) .nil) .nil) .nil) .nil) .nil) .nil) .nil)) .nil)) .nil)),nx:=4170,ok:=true,v:=Jp,out:=JQ,nx':=4587,wr:=[4116,4169]}
theorem Ay8:∀[F:Facts],An (Env.ofS Tryz.prog [] []) yK.base 637 Ab5=true:=by
 intro F
 kernel_rfl
theorem Aw4 (G:Nat→D→D):Ab5.Valid Tryz.prog G:=Cor.next (okE _ []) (w0 G) (Atg G) Ay8
noncomputable def Adh:Orc:=
 {f:=252,args:=[(pN 4116)],part:=(no .nil (no (no .nil (no (no .nil (no (no (no (no (no (no (no (lf (.cells 4 (nd CJ PJ AQ))) .nil) .nil) .nil) .nil) .nil) .nil) .nil)) .nil)) .nil)),nx:=4117,ok:=true,v:=Jp,out:=JQ,nx':=4587,wr:=[4116]}
theorem Awq:∀[F:Facts],BF (Env.ofS Tryz.prog [] []) Ab5.base 789 Adh=true:=by
 intro F
 kernel_rfl
theorem ABy (G:Nat→D→D):Adh.Valid Tryz.prog G:=Orc.first (okE _ []) (w0 G) (Aw4 G) Awq
noncomputable def Adg:Orc:=
 {f:=213,args:=[(pN 4589),(.func (.func 214) [] [(pN 4590),(pN 4633)])],part:=(no (no (no .nil wW) (no wW (no .nil (no (no .nil (no .nil (no .nil (no .nil (no (no (no (lf (.cells 12 (nd (pN 4588) (nd (.slice 4635 0 1 5) EB EC) Z0))) .nil) .nil) .nil))))) .nil)))) (no (no ur (no .nil (no (no .nil (no .nil (no .nil (no .nil (no (no (no (lf (.cells 3 (nd (.slice 4584 25 81 5) EE AQ))) .nil) .nil) .nil))))) .nil))) (no .nil (no .nil qg)))),nx:=4636,ok:=true,v:=fi,out:=(no (no .nil (no qP (no .nil (no (no .nil (no .nil (no .nil (no .nil (no (no (no (lf (.cells 12 (nd (pN 4588) (nd (.slice 4902 0 5 5) EB EC) Z0))) .nil) .nil) .nil))))) .nil)))) (no (no .nil (no .nil (no (no .nil (no .nil (no .nil (no .nil (no (no (no (lf (.cells 3 (nd (.slice 4584 185 49 5) EE AQ))) .nil) .nil) .nil))))) .nil))) (no .nil (no (no (no .nil (no (no (no .nil (no .nil (no (no (lf (ceL 25 [e9,fV,[(iN 6),(iN 3),E9,(iN 0),(iN 3)]])) .nil) .nil))) .nil) .nil)) .nil) .nil)))),nx':=4962,wr:=[4588,4589,4635]}
theorem Axm:∀[F:Facts],Ap (Env.ofS Tryz.prog [] []) 1000000 Adg=true:=by
 intro F
 kernel_rfl
theorem Auc (G:Nat→D→D):Adg.Valid Tryz.prog G:=Ai.val (okE _ []) (w0 G) Axm
noncomputable def Ab3:Orc:=
 {f:=213,args:=[(pN 4589),(.func (.func 214) [] [(pN 4590),(pN 4982)])],part:=(no (no .nil (no .nil (no .nil (no (no .nil (no .nil (no .nil (no .nil (no (no (no (lf (.cells 12 (nd (pN 4588) (nd (.slice 4984 0 6 5) EB EC) Z0))) .nil) .nil) .nil))))) .nil)))) (no (no (no .nil (no np (no .nil (no .nil (no (no .nil (no .nil (no (no (lf (ceL 30 [e9,fV,qi])) .nil) .nil))) .nil))))) (no .nil (no (no .nil (no .nil (no .nil (no .nil (no (no (no (lf (.cells 3 (nd (.slice 4584 195 47 5) EE AQ))) .nil) .nil) .nil))))) .nil))) (no .nil (no (no .nil (no .nil (no .nil (no (no .nil (no .nil (no (no (lf (.cells 5 (nd (iN 8) kz (nd Fi By .nil)))) .nil) .nil))) .nil)))) qg)))),nx:=4985,ok:=true,v:=sI,out:=(no (no (no .nil uh) (no .nil (no .nil (no (no .nil (no .nil (no .nil (no .nil (no (no (no (lf (.cells 12 (nd (pN 4588) (nd (.slice 5299 0 11 5) EB EC) Z0))) .nil) .nil) .nil))))) .nil)))) (no (no .nil (no nL (no (no .nil (no .nil (no .nil (no .nil (no (no (no (lf (.cells 3 (nd (.slice 4584 415 3 5) EE AQ))) .nil) .nil) .nil))))) .nil))) qQ)),nx':=5413,wr:=[4588,4589,4984]}
theorem ABw:∀[F:Facts],Ap (Env.ofS Tryz.prog [] []) 1000000 Ab3=true:=by
 intro F
 kernel_rfl
theorem Aya (G:Nat→D→D):Ab3.Valid Tryz.prog G:=Ai.val (okE _ []) (w0 G) ABw
noncomputable def zS:Orc:=
 {f:=221,args:=[(pN 5451),(.agg [(.str 6 OU),(.slice 4945 0 4 15)])],part:=(no (no (no V4 (no .nil (no (no (no .nil (no (no .nil (no (no .nil (no (lf (.cells 9 (nd HI (nd Yx (nd jN NY .nil) CS) (nd Fi (nd cX Rq .nil) By)))) .nil)) .nil)) .nil)) .nil) .nil))) (no (no Y6 xC) .nil)) (no Z5 (no (no .nil xC) YC))),nx:=5455,ok:=true,v:=y18,out:=(no (no (no .nil (no .nil (no (no (no .nil (no (no .nil (no (no .nil (no (lf (.cells 9 (nd HI (nd Yx tl CS) sS))) .nil)) .nil)) .nil)) .nil) .nil))) (no (no .nil uB) .nil)) (no .nil (no tQ .nil))),nx':=5630,wr:=[5450,5449,5451]}
theorem Axb:∀[F:Facts],Ap (Env.ofS Tryz.prog [] []) 1000000 zS=true:=by
 intro F
 kernel_rfl
theorem ABb (G:Nat→D→D):zS.Valid Tryz.prog G:=Ai.val (okE _ []) (w0 G) Axb
noncomputable def Adk:Orc:=
 {f:=221,args:=[(pN 5451),(.agg [(.str 6 EQ),(.slice 5396 0 5 15)])],part:=(no (no (no V4 (no .nil (no (no (no .nil (no (no .nil (no (no .nil (no (lf (.cells 9 (nd HI (nd Yx tl AQ) sS))) .nil)) .nil)) .nil)) .nil) .nil))) (no (no Y6 uB) .nil)) (no Z5 (no tQ YC))),nx:=5631,ok:=true,v:=y18,out:=(no (no (no .nil (no .nil (no (no (no .nil (no (no .nil (no (no .nil (no (lf (.cells 9 (nd HI (nd Yx (nd jN Lg .nil) AQ) (nd Fi (nd cX uM .nil) By)))) .nil)) .nil)) .nil)) .nil) .nil))) (no (no .nil (no (no (no .nil (no (no .nil (no (no .nil xd) .nil)) .nil)) .nil) .nil)) .nil)) (no .nil (no (no .nil (no (no (no .nil (no (no .nil (no (no .nil vS) .nil)) .nil)) .nil) .nil)) .nil))),nx':=5841,wr:=[5450,5449,5451]}
theorem Aul:∀[F:Facts],Ap (Env.ofS Tryz.prog [] []) 1000000 Adk=true:=by
 intro F
 kernel_rfl
theorem ABf (G:Nat→D→D):Adk.Valid Tryz.prog G:=Ai.val (okE _ []) (w0 G) Aul
noncomputable def Acs:Orc:=
 {f:=74,args:=[(.str 293 gt)],part:=.nil,nx:=4108,ok:=true,v:=(.tuple [(.agg [(.str 7 HG),(.slice 5415 0 2 2),(.str 6 EQ)]),(.slice 5299 0 11 5),(.agg [(iN 0),(iN 0)]),(iN 0)]),out:=(no (no (no V4 uh) rA) ut),nx':=5843,wr:=[]}
theorem Ayk:∀[F:Facts],Ap (Env.ofS Tryz.prog [Adk,zS,Ab3,Adg,Adh] []) 1000000 Acs=true:=by
 intro F
 kernel_rfl
theorem AAu (G:Nat→D→D):Acs.Valid Tryz.prog G:=Ai.val (okE _ []) (.cons (ABf G) (.cons (ABb G) (.cons (Aya G) (.cons (Auc G) (.cons (ABy G) (w0 G)))))) Ayk
noncomputable def j7:Orc:=
 {f:=16,args:=[(.str 7 HG)],part:=.nil,nx:=4096,ok:=true,v:=(.tuple [(.agg [(.str 7 HG),(.slice 5415 0 2 2),(.str 6 EQ)]),(iN 0)]),out:=(no (no (no V4 .nil) rA) ut),nx':=5847,wr:=[]}
theorem ABs:∀[F:Facts],Ap (Env.ofS Tryz.prog [Acs] []) 1000000 j7=true:=by
 intro F
 kernel_rfl
theorem Amv (G:Nat→D→D):j7.Valid Tryz.prog G:=Ai.val (okE _ []) (.cons (AAu G) (w0 G)) ABs
noncomputable def cE:Orc:=
 {f:=20,args:=[(iN 4)],part:=.nil,nx:=8192,ok:=true,v:=(.agg [(.str 7 HG),(.slice 8341 0 2 2),(.str 6 EQ)]),out:=oJ,nx':=8426,wr:=[]}
theorem At6:∀[F:Facts],Ap (Env.ofS Tryz.prog [] []) 1000000 cE=true:=by
 intro F
 kernel_rfl
theorem x6 (G:Nat→D→D):cE.Valid Tryz.prog G:=Ai.val (okE _ []) (w0 G) At6
noncomputable def zm:Orc:=
 {f:=221,args:=[(pN 8435),(.agg [(.str 6 OU),(.slice 8331 0 4 15)])],part:=(no (no (no .nil (no (no .nil (no jg (no .nil (no .nil (no (no (no (no (no (lf (.cells 9 (nd HI (nd ZU oi CS) (nd Fi wS By)))) .nil) .nil) .nil) .nil) .nil))))) di)) (no (no tJ d8) gZ)) (no .nil (no (no (no .nil (no d5 pX)) .nil) .nil))),nx:=8439,ok:=true,v:=y18,out:=(no (no (no .nil (no (no .nil (no .nil (no .nil (no .nil (no (no (no (no (no (lf (.cells 9 (nd HI (nd ZU wo CS) rX))) .nil) .nil) .nil) .nil) .nil))))) .nil)) (no (no tk .nil) .nil)) (no .nil (no (no (no .nil (no .nil wY)) .nil) .nil))),nx':=8614,wr:=[8434,8433,8435]}
theorem Axz:∀[F:Facts],Ap (Env.ofS Tryz.prog [] []) 1000000 zm=true:=by
 intro F
 kernel_rfl
theorem Ay7 (G:Nat→D→D):zm.Valid Tryz.prog G:=Ai.val (okE _ []) (w0 G) Axz
noncomputable def za:Orc:=
 {f:=221,args:=[(pN 8435),(.agg [(.str 6 EQ),(.slice 8339 0 5 15)])],part:=(no (no (no .nil (no (no .nil (no jg (no .nil (no .nil (no (no (no (no (no (lf (.cells 9 (nd HI (nd ZU wo AQ) rX))) .nil) .nil) .nil) .nil) .nil))))) di)) (no (no tk d8) gZ)) (no .nil (no (no (no .nil (no d5 wY)) .nil) .nil))),nx:=8615,ok:=true,v:=y18,out:=(no (no (no .nil (no (no .nil (no .nil (no .nil (no .nil (no (no (no (no (no (lf (.cells 9 (nd HI (nd ZU (nd a8 Lg .nil) AQ) (nd Fi (nd TD xF .nil) By)))) .nil) .nil) .nil) .nil) .nil))))) .nil)) (no (no (no .nil (no .nil (no .nil (no .nil (no (no (no (no xd .nil) .nil) .nil) .nil))))) .nil) .nil)) (no .nil (no (no (no .nil (no .nil (no .nil (no .nil (no (no (no (no vS .nil) .nil) .nil) .nil))))) .nil) .nil))),nx':=8825,wr:=[8434,8433,8435]}
theorem Ax2:∀[F:Facts],Ap (Env.ofS Tryz.prog [] []) 1000000 za=true:=by
 intro F
 kernel_rfl
theorem Azo (G:Nat→D→D):za.Valid Tryz.prog G:=Ai.val (okE _ []) (w0 G) Ax2
noncomputable def Ae8:Orc:=
 {f:=40,args:=[(.slice 8838 0 3 1),(.str 1 32)],part:=(no .nil (no .nil (no .nil (no (no (no (no wt .nil) .nil) .nil) .nil)))),nx:=8839,ok:=true,v:=qw,out:=.nil,nx':=8839,wr:=[]}
theorem Axw (G:Nat→D→D):Ae8.Valid Tryz.prog G:=Orc.Valid.join Av Ak (by kernel_rfl)
noncomputable def Arh:Orc:=
 {f:=40,args:=[(.slice 8849 0 3 1),(.str 1 32)],part:=(no (no .nil (no (no (no .nil (no (no (no .nil (no (no .nil (no (no (no (lf (.cells 3 (nd y66 H9 (lf (.str 6 52983592005168))))) .nil) .nil) .nil)) .nil)) .nil) .nil)) .nil) .nil)) .nil),nx:=8850,ok:=true,v:=(.str 14 977374761825179903794689052928373),out:=.nil,nx':=8850,wr:=[]}
theorem At9 (G:Nat→D→D):Arh.Valid Tryz.prog G:=Orc.Valid.join Av Ak (by kernel_rfl)
noncomputable def Apw:Orc:=
 {f:=40,args:=[(.slice 8870 0 2 1),(.str 1 32)],part:=(no .nil (no .nil Am6)),nx:=8871,ok:=true,v:=Nu,out:=.nil,nx':=8871,wr:=[]}
theorem Awx (G:Nat→D→D):Apw.Valid Tryz.prog G:=Orc.Valid.join Av Ak (by kernel_rfl)
noncomputable def Akw:Orc:=
 {f:=40,args:=[(.slice 8880 0 4 1),(.str 1 32)],part:=(no .nil (no (no (no (no .nil (no .nil (no (no .nil (no (no .nil (no (no (no (lf (.cells 4 (nd Z7 (nd RW (lf Cg) .nil) sY))) .nil) .nil) .nil)) .nil)) .nil))) .nil) .nil) .nil)),nx:=8881,ok:=true,v:=(.str 17 34174999135587330637513240118662493726819),out:=.nil,nx':=8881,wr:=[]}
theorem Axt (G:Nat→D→D):Akw.Valid Tryz.prog G:=Orc.Valid.join Av Ak (by kernel_rfl)
noncomputable def Amx:Orc:=
 {f:=40,args:=[(.slice 8895 0 3 1),(.str 1 32)],part:=(no (no (no (no (no (no (no .nil wt) .nil) .nil) .nil) .nil) .nil) .nil),nx:=8896,ok:=true,v:=qw,out:=.nil,nx':=8896,wr:=[]}
theorem Az9 (G:Nat→D→D):Amx.Valid Tryz.prog G:=Orc.Valid.join Av Ak (by kernel_rfl)
noncomputable def Afn:Orc:=
 {f:=40,args:=[(.slice 8905 0 4 1),(.str 1 32)],part:=(no (no .nil (no (no .nil (no (no (no .nil (no .nil (no (no .nil (no (no (no (lf (.cells 4 (nd IG (nd BS dq .nil) Wv))) .nil) .nil) .nil)) .nil))) .nil) .nil)) .nil)) .nil),nx:=8906,ok:=true,v:=(.str 11 61807460100827705273904995),out:=.nil,nx':=8906,wr:=[]}
theorem Ayu (G:Nat→D→D):Afn.Valid Tryz.prog G:=Orc.Valid.join Av Ak (by kernel_rfl)
noncomputable def Ae4:Orc:=
 {f:=40,args:=[(.slice 8915 0 3 1),(.str 1 32)],part:=(no (no (no .nil (no (no .nil (no (no .nil (no .nil (no (no .nil (no (no (no (lf (.cells 3 (nd y66 FZ (lf (.str 4 875441713))))) .nil) .nil) .nil)) .nil))) .nil)) .nil)) .nil) .nil),nx:=8916,ok:=true,v:=(.str 11 63082223568291130560637301),out:=.nil,nx':=8916,wr:=[]}
theorem Aye (G:Nat→D→D):Ae4.Valid Tryz.prog G:=Orc.Valid.join Av Ak (by kernel_rfl)
noncomputable def Al7:Orc:=
 {f:=40,args:=[(.slice 8926 0 3 1),(.str 1 32)],part:=(no .nil (no .nil (no .nil (no .nil (no .nil (no (no .nil (no .nil (no (no .nil (no (no (no (lf (.cells 3 (nd y66 H9 (lf (.str 6 58481150144053))))) .nil) .nil) .nil)) .nil))) .nil)))))),nx:=8927,ok:=true,v:=(.str 14 1078786809843530489634793857116533),out:=.nil,nx':=8927,wr:=[]}
theorem Awe (G:Nat→D→D):Al7.Valid Tryz.prog G:=Orc.Valid.join Av Ak (by kernel_rfl)
noncomputable def Ami:Orc:=
 {f:=40,args:=[(.slice 8947 0 6 1),(.str 1 32)],part:=(no (no (no .nil (no (no .nil (no .nil (no .nil (no .nil (no (no .nil (no (no (no (lf (.cells 6 (nd wE (nd Aoy dk Ad4) (nd Pr (lf wx) .nil)))) .nil) .nil) .nil)) .nil))))) .nil)) .nil) .nil),nx:=8948,ok:=true,v:=(.str 27 22677871696666353260399576567604113631615819534972587227562207606),out:=.nil,nx':=8948,wr:=[]}
theorem As5 (G:Nat→D→D):Ami.Valid Tryz.prog G:=Orc.Valid.join Av Ak (by kernel_rfl)
noncomputable def Aki:Orc:=
 {f:=40,args:=[(.slice 8953 0 16 1),(.str 1 10)],part:=(no (no .nil (no (no .nil (no .nil (no .nil (no .nil (no .nil (no (no .nil (no (no (no (lf (ceL 16 [[(.str 17 20230042418556270664287645172967026946672),(.str 16 163663557777977657653952618851193808237),wh,(.str 23 5669106689038457087090578724622977810997386712938913824),aM,(.str 25 372811570601772855068947877794177853716406914175976279842848),y60,(.str 16 163663234288461656864751445131360691565),wh,(.str 21 86520474080494723831707260011954985526752139092000)],[(.str 21 86526493980767059800790309977542497465094370041888),(.str 23 5670977411134242344237714045901171970135583465434980384),(.str 36 115035797536642840810622862890016519747205690360571585576956644997775468872522801487904),y60,(.str 13 4705548432883374688075780289651),Ad]])) .nil) .nil) .nil)) .nil)))))) .nil)) .nil),nx:=8954,ok:=true,v:=CJ,out:=.nil,nx':=8954,wr:=[]}
theorem Awo (G:Nat→D→D):Aki.Valid Tryz.prog G:=Orc.Valid.join Av Ak (by kernel_rfl)
noncomputable def lm:Orc:=
 {f:=19,args:=[(.agg [(.str 7 HG),(.slice 8341 0 2 2),(.str 6 EQ)])],part:=oJ,nx:=8426,ok:=true,v:=(.tuple [(.str 293 gt),(iN 0)]),out:=.nil,nx':=8954,wr:=[]}
theorem Axc:∀[F:Facts],Ap (Env.ofS Tryz.prog [Aki,Ami,Al7,Ae4,Afn,Amx,Akw,Apw,Arh,Ae8,za,zm] []) 1000000 lm=true:=by
 intro F
 kernel_rfl
theorem Awy (G:Nat→D→D):lm.Valid Tryz.prog G:=Ai.val (okE _ []) (.cons (Awo G) (.cons (As5 G) (.cons (Awe G) (.cons (Aye G) (.cons (Ayu G) (.cons (Az9 G) (.cons (Axt G) (.cons (Awx G) (.cons (At9 G) (.cons (Axw G) (.cons (Azo G) (.cons (Ay7 G) (w0 G))))))))))))) Axc
noncomputable def yg:Orc:=cE.move 4096
theorem Ats (G:Nat→D→D):yg.Valid Tryz.prog G:=Orc.Valid.move (x6 G) (by kernel_rfl) 4096
noncomputable def kN:Orc:=
 {f:=18,args:=[(.agg [(.str 7 HG),(.slice 5415 0 2 2),(.str 6 EQ)]),(.agg [(.str 7 HG),(.slice 12437 0 2 2),(.str 6 EQ)])],part:=(no (no (no V4 (no (no .nil (no (no (no .nil (no (no (no (no (no .nil (lf (ceL 75 [Hs,UA,S6,Us,EV,Tp,[Fw,(iN 12),(iN 0),y21,y21,(iN 0),(iN 0),(iN 0),(.slice 12434 0 1 2),Ez],Wh]))) .nil) .nil) .nil) .nil)) .nil) .nil)) (no (no (no (no .nil (no (no (no (no (no .nil (lf (ceL 60 [Hs,EV,S2,[y78,(iN 4),(iN 0),y21,y21,(iN 0),(iN 0),(iN 0),(.slice 12425 0 1 2),Ad],Ws,Vj]))) .nil) .nil) .nil) .nil)) .nil) .nil) .nil))) (no (no Y6 (no pI .nil)) (no (no .nil (no (no (no .nil (no (no (no (no (no .nil (lf (.cells 4 (nd Ez (nd (.slice 12427 0 4 15) (lf (.slice 12435 0 5 15)) .nil) Lg)))) .nil) .nil) .nil) .nil)) .nil) .nil)) .nil))) (no Z5 (no (no (no .nil pI) .nil) YC))),nx:=12522,ok:=true,v:=y13,out:=.nil,nx':=12564,wr:=[]}
theorem Axh:∀[F:Facts],Ap (Env.ofS Tryz.prog [] []) 1000000 kN=true:=by
 intro F
 kernel_rfl
theorem Ax6 (G:Nat→D→D):kN.Valid Tryz.prog G:=Ai.val (okE _ []) (w0 G) Axh
noncomputable def yG:Orc:=j7.move 12288
theorem AAw (G:Nat→D→D):yG.Valid Tryz.prog G:=Orc.Valid.move (Amv G) (by kernel_rfl) 12288
noncomputable def Abr:Orc:=cE.move 12288
theorem Au4 (G:Nat→D→D):Abr.Valid Tryz.prog G:=Orc.Valid.move (x6 G) (by kernel_rfl) 12288
noncomputable def mU:Orc:=
 {f:=18,args:=[(.agg [(.str 7 HG),(.slice 17703 0 2 2),(.str 6 EQ)]),(.agg [(.str 7 HG),(.slice 20629 0 2 2),(.str 6 EQ)])],part:=(no (no (no (no .nil (no (no .nil (no (no (no .nil (no (no .nil (no (no (no (lf (.cells 4 (nd Ez (nd (.slice 17233 0 4 15) (lf (.slice 17684 0 5 15)) .nil) Lg))) .nil) .nil) .nil)) .nil)) .nil) .nil)) .nil)) (no (no .nil (no (no (no .nil (no (no (no (no (no .nil (no (lf (ceL 75 [Hs,UA,S6,Us,EV,Tp,[Fw,(iN 12),(iN 0),y21,y21,(iN 0),(iN 0),(iN 0),(.slice 20626 0 1 2),Ez],Wh])) .nil)) .nil) .nil) .nil) .nil)) .nil) .nil)) (no (no (no (no .nil (no (no (no (no (no .nil (no (lf (ceL 60 [Hs,EV,S2,[y78,(iN 4),(iN 0),y21,y21,(iN 0),(iN 0),(iN 0),(.slice 20617 0 1 2),Ad],Ws,Vj])) .nil)) .nil) .nil) .nil) .nil)) .nil) .nil) .nil))) (no (no (no (no (no (no Aj7 .nil) .nil) .nil) (no (no .nil (no (no .nil (no .nil (no (no (no (no (lf (ceL 60 [Hs,EV,S2,[y78,(iN 4),(iN 0),y21,y21,(iN 0),(iN 0),(iN 0),(.slice 17153 0 1 2),Ad],Ws,Vj])) .nil) .nil) .nil) .nil))) .nil)) .nil)) (no sH .nil)) (no (no .nil (no (no (no .nil (no (no (no (no (no .nil (no (lf (.cells 4 (nd Ez (nd (.slice 20619 0 4 15) (lf (.slice 20627 0 5 15)) .nil) Lg))) .nil)) .nil) .nil) .nil) .nil)) .nil) .nil)) .nil))) (no (no .nil (no (no .nil (no (no (no (no .nil (no (no .nil (no (no (no (lf (ceL 75 [Hs,UA,S6,Us,EV,Tp,[Fw,(iN 12),(iN 0),y21,y21,(iN 0),(iN 0),(iN 0),(.slice 17646 0 1 2),Ez],Wh])) .nil) .nil) .nil)) .nil)) .nil) .nil) .nil)) .nil)) (no (no (no .nil sH) .nil) (no .nil (no (no .nil (no .nil Alw)) .nil))))),nx:=20714,ok:=true,v:=y13,out:=.nil,nx':=20756,wr:=[]}
theorem AAo:∀[F:Facts],Ap (Env.ofS Tryz.prog [] []) 1000000 mU=true:=by
 intro F
 kernel_rfl
theorem AAs (G:Nat→D→D):mU.Valid Tryz.prog G:=Ai.val (okE _ []) (w0 G) AAo
noncomputable def Abf:Orc:=o16.move 102395
theorem ABd (G:Nat→D→D):Abf.Valid Tryz.prog G:=Orc.Valid.move (w16 G) (by kernel_rfl) 102395
end Go.Proofs.YtmjeljjkhblgeaaGreatDoor.familyDefines

