/- What is proved: that certain calls which the law FamilyDefines makes come to the results that are written here (part 12 of 16). Conditions: the memory that such a call reaches is as written here; the kernel runs the evaluator over each. -/
import Derived.Test.YtmjeljjkhblgeaaGreatDoorFamilyDefinesKnownA
import Derived.Test.YtmjeljjkhblgeaaGreatDoorFamilyDefinesKnownC
set_option linter.unusedVariables false
set_option linter.unusedSectionVars false
set_option linter.unusedSimpArgs false
namespace Go.Proofs.YtmjeljjkhblgeaaGreatDoor.familyDefines
open Go.AE
noncomputable def Aa2:Cor:=
 {f:=252,nt:=72,td:=(Aj (Env.of Tryz.prog) 252 2),tmps:=(nd (pN 4117) (no (nd Dv (nd JB Mi (nd (pN 4117) nP AG)) (nd JV (nd (pN 4117) (nd (pN 4117) (lf (.slice 4531 0 75 5)) .nil) K2) (nd (iN 343) K3 (lf (.ptr 4534 1))))) (nd (iN 302) (nd Jl (nd (pN 4117) (lf (.agg [(iN 14),(iN 11)])) AG) (nd (pN 4117) AG (lf (iN 309)))) (nd IZ (nd (iN 302) (nd (pN 4117) (lf (.slice 4535 0 1 5)) .nil) AG) Zq))) (nd uz (nd (pN 4534) Lr (nd (pN 4117) (nd Dz (nd (pN 4117) (lf (.agg [(iN 1),(.str 7 Gm),(iN 0),(iN 14),(iN 11)])) .nil) nP) (nd y21 (lf (.func (.func 285) [] [(pN 4534)])) (lf (pN 4534))))) (nd (pN 4117) (nd (pN 4117) (nd (pN 4117) (lf (.agg [(iN 0),(.str 0 0),(iN 0),(iN 14),(iN 11)])) AG) (nd CW AG (lf Ed))) (nd Dv (nd (pN 4117) (nd Dz pC .nil) AG) Lx)))),part:=(no (no (no (no .nil (no .nil (no .nil tp))) .nil) (no .nil (no (no .nil (no (no (no (no (no (no (no (lf (.cells 4 (nd CW (nd (iN 309) Hb .nil) GF))) .nil) .nil) .nil) .nil) .nil) .nil) .nil)) .nil))) (no (no (no .nil (no .nil (no .nil (no (no .nil (no .nil (no (no (no (lf (ceL 380 [Kb,BK,IH,JD,I1,Lu,LC,y56,L8,NI,OF,Nb,NU,Ni,QN,PU,PV,Q7,Qs,Uc,TE,Wa,TG,TS,Y4,ZC,Zo,Zi,jG,jC,fT,i9,dJ,uR,nN,qR,xm,oH])) .nil) .nil) .nil))) .nil)))) .nil) (no .nil (no (no .nil (no sX tp)) .nil)))),nx:=4537,ok:=true,v:=IJ,out:=Jr,nx':=4582,wr:=[4117,4536]}
theorem Avk:∀[F:Facts],An (Env.ofS Tryz.prog [] []) noB 1000000 Aa2=true:=by
 intro F
 kernel_rfl
theorem AA5 (G:Nat→D→D):Aa2.Valid Tryz.prog G:=Cor.last (okE _ []) (w0 G) Avk
noncomputable def zH:Cor:=
 {f:=252,nt:=72,td:=(Aj (Env.of Tryz.prog) 252 2),tmps:=(nd (pN 4117) (no (nd Dv (nd JB Mi (nd (pN 4117) i6 AG)) (nd JV (nd (pN 4117) (nd (pN 4117) (lf (.slice 4476 0 65 5)) .nil) K2) (nd (iN 343) K3 (lf (.ptr 4478 1))))) (nd (iN 268) (nd Jl (nd (pN 4117) (lf (.agg [(iN 12),(iN 27)])) AG) (nd (pN 4117) AG (lf (iN 269)))) (nd IZ (nd (iN 268) (nd (pN 4117) (lf (.slice 4480 0 1 5)) .nil) AG) xG))) (nd qI (nd (pN 4478) Lr (nd (pN 4117) (nd Dz (nd (pN 4117) (lf (.agg [(iN 4),(.str 1 59),(iN 0),(iN 12),(iN 27)])) .nil) i6) (nd y21 (lf (.func (.func 285) [] [(pN 4478)])) (lf (pN 4478))))) (nd (pN 4117) (nd (pN 4117) (nd (pN 4117) (lf (.agg [(iN 0),(.str 0 0),(iN 0),(iN 12),(iN 27)])) AG) (nd CW AG bl)) (nd Dv (nd (pN 4117) (nd Dz (lf qI) .nil) AG) Lx)))),part:=(no (no .nil (no (no (no (no (no (no .nil (no .nil (no (no (no (lf (ceL 330 [Kb,BK,IH,JD,I1,Lu,LC,y56,L8,NI,OF,Nb,NU,Ni,QN,PU,PV,Q7,Qs,Uc,TE,Wa,TG,TS,Y4,ZC,Zo,Zi,jG,jC,fT,i9,dJ])) .nil) .nil) .nil))) .nil) .nil) .nil) .nil) (no (no .nil (no (no (no (no (no (no (no (lf (.cells 4 (nd CW (nd (iN 269) NV .nil) Pz))) .nil) .nil) .nil) .nil) .nil) .nil) .nil)) .nil))) (no (no (no (no (no (no (no .nil qN) .nil) .nil) .nil) .nil) .nil) (no .nil (no dN (no .nil (no .nil (no .nil (no qN .nil)))))))),nx:=4482,ok:=true,v:=IJ,out:=Jr,nx':=4582,wr:=[4117,4481]}
theorem Auf:∀[F:Facts],An (Env.ofS Tryz.prog [] []) Aa2.base 767 zH=true:=by
 intro F
 kernel_rfl
theorem ABh (G:Nat→D→D):zH.Valid Tryz.prog G:=Cor.next (okE _ []) (w0 G) (AA5 G) Auf
noncomputable def yA:Cor:=
 {f:=252,nt:=72,td:=(Aj (Env.of Tryz.prog) 252 2),tmps:=(nd (pN 4117) (no (nd Dv (nd JB Mi (nd (pN 4117) gk AG)) (nd JV (nd (pN 4117) (nd (pN 4117) (lf (.slice 4425 0 56 5)) .nil) K2) (nd (iN 343) K3 (lf (.ptr 4428 1))))) (nd (iN 233) (nd Jl (nd (pN 4117) (lf (.agg [(iN 11),(iN 18)])) AG) (nd (pN 4117) AG (lf (iN 236)))) (nd IZ (nd (iN 233) (nd (pN 4117) (lf (.slice 4429 0 1 5)) .nil) AG) Zq))) (nd tB (nd (pN 4428) Lr (nd (pN 4117) (nd Dz (nd (pN 4117) (lf (.agg [(iN 1),(.str 3 7889261),(iN 0),(iN 11),(iN 18)])) .nil) gk) (nd y21 (lf (.func (.func 285) [] [(pN 4428)])) (lf (pN 4428))))) (nd (pN 4117) (nd (pN 4117) (nd (pN 4117) (lf (.agg [(iN 0),(.str 0 0),(iN 0),(iN 11),(iN 18)])) AG) nD) (nd Dv (nd (pN 4117) (nd Dz (lf tB) .nil) AG) Lx)))),part:=(no (no .nil (no .nil (no (no .nil (no (no (no (no (no (no (no (lf (.cells 4 (nd CW (nd (iN 236) SH .nil) Ud))) .nil) .nil) .nil) .nil) .nil) .nil) .nil)) o0))) (no (no .nil (no .nil o0)) (no .nil (no dN (no (no (no .nil (no (no .nil (no (no (no (lf (ceL 285 [Kb,BK,IH,JD,I1,Lu,LC,y56,L8,NI,OF,Nb,NU,Ni,QN,PU,PV,Q7,Qs,Uc,TE,Wa,TG,TS,Y4,ZC,Zo,Zi,[(iN 1),y51,(iN 0),(iN 11),(iN 18)]])) .nil) .nil) .nil)) .nil)) .nil) .nil))))),nx:=4431,ok:=true,v:=IJ,out:=Jr,nx':=4582,wr:=[4117,4430]}
theorem Avy:∀[F:Facts],An (Env.ofS Tryz.prog [] []) zH.base 678 yA=true:=by
 intro F
 kernel_rfl
theorem Aue (G:Nat→D→D):yA.Valid Tryz.prog G:=Cor.next (okE _ []) (w0 G) (ABh G) Avy
noncomputable def Aa8:Cor:=
 {f:=252,nt:=72,td:=(Aj (Env.of Tryz.prog) 252 2),tmps:=(nd (pN 4117) (no (nd Dv (nd JB Mi (nd (pN 4117) qq AG)) (nd JV (nd (pN 4117) (nd (pN 4117) (lf (.slice 4374 0 47 5)) .nil) K2) (nd (iN 343) K3 (lf (.ptr 4377 1))))) (nd (iN 199) (nd Jl (nd (pN 4117) (lf (.agg [(iN 10),(iN 11)])) AG) (nd (pN 4117) AG mR)) (nd IZ (nd (iN 199) (nd (pN 4117) (lf (.slice 4378 0 1 5)) .nil) AG) Zq))) (nd va (nd (pN 4377) Lr (nd (pN 4117) (nd Dz (nd (pN 4117) (lf (.agg [(iN 1),(.str 5 y47),(iN 0),(iN 10),(iN 11)])) .nil) qq) (nd y21 (lf (.func (.func 285) [] [(pN 4377)])) (lf (pN 4377))))) (nd (pN 4117) (nd (pN 4117) (nd (pN 4117) (lf (.agg [(iN 0),(.str 0 0),(iN 0),(iN 10),(iN 11)])) AG) (nd CW AG Aj1)) (nd Dv (nd (pN 4117) (nd Dz (lf va) .nil) AG) Lx)))),part:=(no (no (no .nil (no .nil (no .nil (no (no (no (no .nil (no (no (no (lf (ceL 240 [Kb,BK,IH,JD,I1,Lu,LC,y56,L8,NI,OF,Nb,NU,Ni,QN,PU,PV,Q7,Qs,Uc,TE,Wa,TG,TS])) .nil) .nil) .nil)) .nil) .nil) .nil)))) (no wk (no (no .nil (no (no (no (no (no (no (no (lf (.cells 4 (nd CW (nd (iN 204) EE .nil) Nn))) .nil) .nil) .nil) .nil) .nil) .nil) .nil)) .nil))) (no .nil (no wk jD))),nx:=4380,ok:=true,v:=IJ,out:=Jr,nx':=4582,wr:=[4117,4379]}
theorem Axk:∀[F:Facts],An (Env.ofS Tryz.prog [] []) yA.base 719 Aa8=true:=by
 intro F
 kernel_rfl
theorem Awt (G:Nat→D→D):Aa8.Valid Tryz.prog G:=Cor.next (okE _ []) (w0 G) (Aue G) Axk
noncomputable def yj:Cor:=
 {f:=252,nt:=72,td:=(Aj (Env.of Tryz.prog) 252 2),tmps:=(nd (pN 4117) (no (nd Dv (nd JB Mi (nd (pN 4117) tg AG)) (nd JV (nd (pN 4117) (nd (pN 4117) (lf (.slice 4320 0 37 5)) .nil) K2) (nd (iN 343) K3 rZ))) (nd (iN 153) (nd Jl (nd (pN 4117) zV AG) (nd (pN 4117) AG (lf (iN 156)))) (nd IZ (nd (iN 153) (nd (pN 4117) vV .nil) AG) Zq))) (nd vX (nd (pN 4323) Lr (nd (pN 4117) (nd Dz (nd (pN 4117) (lf (.agg [(iN 1),(.str 3 7889261),(iN 0),(iN 7),(iN 19)])) .nil) tg) vL)) (nd (pN 4117) (nd (pN 4117) (nd (pN 4117) Aaa AG) nD) (nd Dv (nd (pN 4117) (nd Dz (lf vX) .nil) AG) Lx)))),part:=(no (no rI (no .nil (no (no (no .nil (no .nil (no .nil (no (no (no (no (lf (ceL 190 [Kb,BK,IH,JD,I1,Lu,LC,y56,L8,NI,OF,Nb,NU,Ni,QN,PU,PV,Q7,Qs])) .nil) .nil) .nil) .nil)))) (no (no (no (no (no (no (no (lf (.cells 4 (nd CW (nd (iN 156) HQ .nil) Fg))) .nil) .nil) .nil) .nil) .nil) .nil) .nil)) .nil))) (no rI vC)),nx:=4326,ok:=true,v:=IJ,out:=Jr,nx':=4582,wr:=[4117,4325]}
theorem Azf:∀[F:Facts],An (Env.ofS Tryz.prog [] []) Aa8.base 808 yj=true:=by
 intro F
 kernel_rfl
theorem Atr (G:Nat→D→D):yj.Valid Tryz.prog G:=Cor.next (okE _ []) (w0 G) (Awt G) Azf
noncomputable def x8:Cor:=
 {f:=252,nt:=72,td:=(Aj (Env.of Tryz.prog) 252 2),tmps:=(nd (pN 4117) (no (nd Dv (nd JB Mi (nd (pN 4117) mw AG)) (nd JV (nd (pN 4117) (nd (pN 4117) (lf (.slice 4270 0 28 5)) .nil) K2) (nd (iN 343) K3 (lf (.ptr 4272 1))))) (nd (iN 119) (nd Jl (nd (pN 4117) (lf (.agg [(iN 6),(iN 7)])) AG) (nd (pN 4117) AG Asc)) (nd IZ (nd (iN 119) (nd (pN 4117) (lf (.slice 4274 0 1 5)) .nil) AG) xG))) (nd ub (nd (pN 4272) Lr (nd (pN 4117) (nd Dz (nd (pN 4117) (lf (.agg [(iN 4),(.str 1 58),(iN 0),(iN 6),(iN 7)])) .nil) mw) (nd y21 (lf (.func (.func 285) [] [(pN 4272)])) (lf (pN 4272))))) (nd (pN 4117) (nd (pN 4117) (nd (pN 4117) (lf (.agg [(iN 0),(.str 0 0),(iN 0),(iN 6),(iN 7)])) AG) (nd CW AG eA)) (nd Dv (nd (pN 4117) (nd Dz (lf ub) .nil) AG) Lx)))),part:=(no (no (no .nil (no (no .nil (no .nil (no (no .nil (no (no (no (no (lf (ceL 145 [Kb,BK,IH,JD,I1,Lu,LC,y56,L8,NI,OF,Nb,NU,Ni,[(iN 4),y45,(iN 0),(iN 6),(iN 7)]])) .nil) .nil) .nil) .nil)) .nil))) .nil)) (no .nil (no (no .nil (no (no (no (no (no (no (no (lf (.cells 4 (nd CW (nd (iN 120) Fr .nil) TF))) .nil) .nil) .nil) .nil) .nil) .nil) .nil)) .nil))) (no (no nQ .nil) (no nQ jD))),nx:=4276,ok:=true,v:=IJ,out:=Jr,nx':=4582,wr:=[4117,4275]}
theorem Ave:∀[F:Facts],An (Env.ofS Tryz.prog [] []) yj.base 719 x8=true:=by
 intro F
 kernel_rfl
theorem Auq (G:Nat→D→D):x8.Valid Tryz.prog G:=Cor.next (okE _ []) (w0 G) (Atr G) Ave
noncomputable def yI:Cor:=
 {f:=252,nt:=72,td:=(Aj (Env.of Tryz.prog) 252 2),tmps:=(nd (pN 4117) (no (nd Dv (nd JB Mi (nd (pN 4117) wj AG)) (nd JV (nd (pN 4117) (nd (pN 4117) ro .nil) K2) (nd (iN 343) K3 vT))) (nd (iN 83) (nd Jl (nd (pN 4117) (lf (.agg [(iN 4),(iN 22)])) AG) (nd (pN 4117) AG (lf (iN 84)))) (nd IZ (nd (iN 83) (nd (pN 4117) rJ .nil) AG) ui))) (nd iZ (nd (pN 4217) Lr (nd (pN 4117) (nd Dz (nd (pN 4117) (lf (.agg [(iN 2),(.str 1 51),(iN 3),(iN 4),(iN 22)])) .nil) wj) qJ)) (nd (pN 4117) (nd (pN 4117) (nd (pN 4117) (lf (.agg [(iN 0),(.str 0 0),(iN 0),(iN 4),(iN 22)])) AG) (nd CW AG dq)) (nd Dv (nd (pN 4117) (nd Dz rM .nil) AG) Lx)))),part:=(no (no .nil (no tt (no (no .nil (no (no (no (no (no (no (no (lf (.cells 4 (nd CW (nd (iN 84) Hk .nil) y15))) .nil) .nil) .nil) .nil) .nil) .nil) .nil)) (no .nil (no .nil (no .nil (no (no (no (no (no (lf (ceL 95 [Kb,BK,IH,JD,I1,Lu,LC,y56,L8,[(iN 2),PI,(iN 3),(iN 4),(iN 22)]])) .nil) .nil) .nil) .nil) .nil))))))) (no (no .nil tt) vC)),nx:=4222,ok:=true,v:=IJ,out:=Jr,nx':=4582,wr:=[4117,4221]}
theorem Ata:∀[F:Facts],An (Env.ofS Tryz.prog [] []) x8.base 726 yI=true:=by
 intro F
 kernel_rfl
theorem Awi (G:Nat→D→D):yI.Valid Tryz.prog G:=Cor.next (okE _ []) (w0 G) (Auq G) Ata
noncomputable def zi:Cor:=
 {f:=252,nt:=72,td:=(Aj (Env.of Tryz.prog) 252 2),tmps:=(nd (pN 4117) (no (nd Dv (nd JB Mi (nd (pN 4117) fJ AG)) (nd JV (nd (pN 4117) (nd (pN 4117) (lf (.slice 4163 0 9 5)) .nil) K2) (nd (iN 343) K3 (lf (.ptr 4166 1))))) (nd (iN 51) (nd Jl (nd (pN 4117) (lf (.agg [(iN 3),(iN 18)])) AG) (nd (pN 4117) AG As1)) (nd IZ (nd (iN 51) (nd (pN 4117) (lf (.slice 4169 0 1 5)) .nil) AG) ui))) (nd xx (nd (pN 4166) Lr (nd (pN 4117) (nd Dz (nd (pN 4117) (lf (.agg [(iN 2),(.str 2 12851),(iN 32),(iN 3),(iN 18)])) .nil) fJ) (nd y21 (lf (.func (.func 285) [] [(pN 4166)])) (lf (pN 4166))))) (nd (pN 4117) (nd (pN 4117) (nd (pN 4117) (lf (.agg [(iN 0),(.str 0 0),(iN 0),(iN 3),(iN 18)])) AG) (nd CW AG Ag3)) (nd Dv (nd (pN 4117) (nd Dz (lf xx) .nil) AG) Lx)))),part:=(no (no .nil (no (no .nil (no pq .nil)) (no (no .nil (no (no (no (no (no (no (no (lf (.cells 4 (nd CW (nd (iN 53) y27 .nil) PN))) .nil) .nil) .nil) .nil) .nil) .nil) .nil)) .nil))) (no .nil (no (no .nil (no (no (no .nil (no (no (no (no (no (lf (ceL 50 [Kb,BK,IH,JD,I1])) .nil) .nil) .nil) .nil) .nil)) .nil) .nil)) (no (no pq rS) .nil)))),nx:=4171,ok:=true,v:=IJ,out:=Jr,nx':=4582,wr:=[4117,4170]}
theorem ABe:∀[F:Facts],An (Env.ofS Tryz.prog [] []) yI.base 719 zi=true:=by
 intro F
 kernel_rfl
theorem Azb (G:Nat→D→D):zi.Valid Tryz.prog G:=Cor.next (okE _ []) (w0 G) (Awi G) ABe
noncomputable def Aar:Orc:=
 {f:=252,args:=[(pN 4117)],part:=(no (no .nil (no .nil (no (no .nil (no (no (no (no (no (no (no (lf (.cells 4 (nd CW PJ AQ))) .nil) .nil) .nil) .nil) .nil) .nil) .nil)) .nil))) .nil),nx:=4118,ok:=true,v:=IJ,out:=Jr,nx':=4582,wr:=[4117]}
theorem AAb:∀[F:Facts],BF (Env.ofS Tryz.prog [] []) zi.base 789 Aar=true:=by
 intro F
 kernel_rfl
theorem Axy (G:Nat→D→D):Aar.Valid Tryz.prog G:=Orc.first (okE _ []) (w0 G) (Azb G) AAb
noncomputable def zq:Orc:=
 {f:=213,args:=[(pN 4584),(.func (.func 214) [] [(pN 4585),(pN 4628)])],part:=(no (no (no (no .nil (no (no .nil (no .nil (no .nil (no .nil (no (no (no (lf (.cells 3 (nd (.slice 4579 25 79 5) Kj AQ))) .nil) .nil) .nil))))) .nil)) jy) wq) (no (no (no .nil (no (no .nil (no .nil (no .nil (no .nil (no (no (no (lf (.cells 12 (nd (pN 4583) (nd (.slice 4630 0 1 5) EB EC) ZE))) .nil) .nil) .nil))))) .nil)) tP) (no .nil tP))),nx:=4631,ok:=true,v:=ji,out:=(no (no (no (no .nil (no (no .nil (no .nil (no .nil (no .nil (no (no (no (lf (.cells 3 (nd (.slice 4579 210 42 5) Kj AQ))) .nil) .nil) .nil))))) .nil)) .nil) vp) (no (no (no .nil (no (no .nil (no .nil (no .nil (no .nil (no (no (no (lf (.cells 12 (nd (pN 4583) (nd (.slice 4924 0 6 5) EB EC) ZE))) .nil) .nil) .nil))))) .nil)) (no .nil (no .nil (no .nil (no (no (no .nil (no .nil (no (no (lf (ceL 30 [eJ,jW,jk])) .nil) .nil))) .nil) .nil))))) .nil)),nx':=4986,wr:=[4583,4584,4630]}
theorem Ayq:∀[F:Facts],Ap (Env.ofS Tryz.prog [] []) 1000000 zq=true:=by
 intro F
 kernel_rfl
theorem Azm (G:Nat→D→D):zq.Valid Tryz.prog G:=Ai.val (okE _ []) (w0 G) Ayq
noncomputable def Adc:Orc:=
 {f:=213,args:=[(pN 4584),(.func (.func 214) [] [(pN 4585),(pN 5006)])],part:=(no (no (no (no .nil (no (no .nil (no .nil (no .nil (no .nil (no (no (no (lf (.cells 3 (nd (.slice 4579 220 40 5) Kj AQ))) .nil) .nil) .nil))))) .nil)) jy) wq) (no (no (no (no .nil (no (no (no .nil (no .nil (no .nil (no (no (lf (ceL 35 [eJ,jW,jk,[(iN 9),(iN 9),y41,(iN 1),BQ]])) .nil) .nil)))) .nil) .nil)) (no (no .nil (no .nil (no .nil (no .nil (no (no (no (lf (.cells 12 (nd (pN 4583) (nd (.slice 5008 0 7 5) EB EC) ZE))) .nil) .nil) .nil))))) .nil)) .nil) (no .nil (no .nil (no (no (no (no .nil (no .nil (no .nil (no (no (lf (.cells 5 (nd (iN 9) kz (nd y41 By .nil)))) .nil) .nil)))) .nil) .nil) .nil))))),nx:=5009,ok:=true,v:=oO,out:=(no (no (no (no .nil (no (no .nil (no .nil (no .nil (no .nil (no (no (no (lf (.cells 3 (nd (.slice 4579 405 3 5) Kj AQ))) .nil) .nil) .nil))))) .nil)) ow) .nil) (no (no (no .nil (no (no .nil (no .nil (no .nil (no .nil (no (no (no (lf (.cells 12 (nd (pN 4583) (nd (.slice 5302 0 12 5) EB EC) ZE))) .nil) .nil) .nil))))) .nil)) .nil) (no .nil (no (no .nil (no .nil (no py .nil))) .nil)))),nx':=5364,wr:=[4583,4584,5008]}
theorem AAr:∀[F:Facts],Ap (Env.ofS Tryz.prog [] []) 1000000 Adc=true:=by
 intro F
 kernel_rfl
theorem AAg (G:Nat→D→D):Adc.Valid Tryz.prog G:=Ai.val (okE _ []) (w0 G) AAr
noncomputable def zW:Orc:=
 {f:=221,args:=[(pN 5402),(.agg [(.str 5 Pc),(.slice 4969 0 5 15)])],part:=(no (no fE (no (no .nil (no iQ qm)) .nil)) (no (no (no .nil (no .nil qm)) .nil) (no (no .nil (no .nil (no (no (no (no .nil (no (no .nil (no (lf (.cells 9 (nd Ed (nd ZB (nd jw NY .nil) CS) (nd y41 (nd eo Rq .nil) By)))) .nil)) .nil)) .nil) .nil) .nil))) fG))),nx:=5406,ok:=true,v:=y18,out:=(no (no .nil (no (no .nil (no .nil tw)) .nil)) (no sl (no (no .nil (no .nil (no (no (no (no .nil (no (no .nil (no (lf (.cells 9 (nd Ed (nd ZB vM CS) vO))) .nil)) .nil)) .nil) .nil) .nil))) .nil))),nx':=5520,wr:=[5401,5400,5402]}
theorem Axo:∀[F:Facts],Ap (Env.ofS Tryz.prog [] []) 1000000 zW=true:=by
 intro F
 kernel_rfl
theorem Atv (G:Nat→D→D):zW.Valid Tryz.prog G:=Ai.val (okE _ []) (w0 G) Axo
noncomputable def Abg:Orc:=
 {f:=221,args:=[(pN 5402),(.agg [(.str 7 y40),(.slice 5347 0 5 15)])],part:=(no (no fE (no (no .nil (no iQ tw)) .nil)) (no sl (no (no .nil (no .nil (no (no (no (no .nil (no (no .nil (no (lf (.cells 9 (nd Ed (nd ZB vM AQ) vO))) .nil)) .nil)) .nil) .nil) .nil))) fG))),nx:=5521,ok:=true,v:=y18,out:=(no (no .nil (no (no .nil (no .nil (no (no (no (no .nil (no (no .nil rN) .nil)) .nil) .nil) .nil))) .nil)) (no (no (no .nil (no .nil (no (no (no (no .nil (no (no .nil tz) .nil)) .nil) .nil) .nil))) .nil) (no (no .nil (no .nil (no (no (no (no .nil (no (no .nil (no (lf (.cells 9 (nd Ed (nd ZB (nd jw Ow .nil) AQ) (nd y41 (nd eo xy .nil) By)))) .nil)) .nil)) .nil) .nil) .nil))) .nil))),nx':=5635,wr:=[5401,5400,5402]}
theorem Awv:∀[F:Facts],Ap (Env.ofS Tryz.prog [] []) 1000000 Abg=true:=by
 intro F
 kernel_rfl
theorem Ay1 (G:Nat→D→D):Abg.Valid Tryz.prog G:=Ai.val (okE _ []) (w0 G) Awv
noncomputable def zT:Orc:=
 {f:=74,args:=[(.str 343 jf)],part:=.nil,nx:=4109,ok:=true,v:=(.tuple [(.agg [(.str 7 Gm),(.slice 5366 0 2 2),(.str 7 y40)]),(.slice 5302 0 12 5),(.agg [(iN 0),(iN 0)]),(iN 0)]),out:=(no vR (no .nil (no .nil (no (no .nil (no .nil (no py uv))) .nil)))),nx':=5637,wr:=[]}
theorem Ayo:∀[F:Facts],Ap (Env.ofS Tryz.prog [Abg,zW,Adc,zq,Aar] []) 1000000 zT=true:=by
 intro F
 kernel_rfl
theorem Aub (G:Nat→D→D):zT.Valid Tryz.prog G:=Ai.val (okE _ []) (.cons (Ay1 G) (.cons (Atv G) (.cons (AAg G) (.cons (Azm G) (.cons (Axy G) (w0 G)))))) Ayo
noncomputable def dM:Orc:=
 {f:=16,args:=[(.str 7 Gm)],part:=.nil,nx:=4096,ok:=true,v:=(.tuple [(.agg [(.str 7 Gm),(.slice 5366 0 2 2),(.str 7 y40)]),(iN 0)]),out:=(no vR sg),nx':=5641,wr:=[]}
theorem ABc:∀[F:Facts],Ap (Env.ofS Tryz.prog [zT] []) 1000000 dM=true:=by
 intro F
 kernel_rfl
theorem Ajn (G:Nat→D→D):dM.Valid Tryz.prog G:=Ai.val (okE _ []) (.cons (Aub G) (w0 G)) ABc
noncomputable def aK:Orc:=
 {f:=20,args:=[(iN 5)],part:=.nil,nx:=8192,ok:=true,v:=(.agg [(.str 7 Gm),(.slice 8355 0 2 2),(.str 7 y40)]),out:=sM,nx':=8426,wr:=[]}
theorem Atx:∀[F:Facts],Ap (Env.ofS Tryz.prog [] []) 1000000 aK=true:=by
 intro F
 kernel_rfl
theorem Aak (G:Nat→D→D):aK.Valid Tryz.prog G:=Ai.val (okE _ []) (w0 G) Atx
noncomputable def Abj:Orc:=
 {f:=221,args:=[(pN 8435),(.agg [(.str 5 Pc),(.slice 8347 0 5 15)])],part:=(no (no (no .nil (no (no dO (no .nil (no .nil (no .nil (no (no (no (no (no (lf (.cells 9 (nd Ed (nd ZM oi CS) (nd y41 wS By)))) .nil) .nil) .nil) .nil) .nil))))) dA)) (no (no (no gK qK) .nil) .nil)) (no .nil (no (no tJ .nil) .nil))),nx:=8439,ok:=true,v:=y18,out:=(no (no (no .nil (no (no .nil (no .nil (no .nil (no .nil (no (no (no (no (no (lf (.cells 9 (nd Ed (nd ZM rx CS) tK))) .nil) .nil) .nil) .nil) .nil))))) .nil)) (no (no (no .nil sa) .nil) .nil)) uE),nx':=8553,wr:=[8434,8433,8435]}
theorem Az4:∀[F:Facts],Ap (Env.ofS Tryz.prog [] []) 1000000 Abj=true:=by
 intro F
 kernel_rfl
theorem Ayb (G:Nat→D→D):Abj.Valid Tryz.prog G:=Ai.val (okE _ []) (w0 G) Az4
noncomputable def zf:Orc:=
 {f:=221,args:=[(pN 8435),(.agg [(.str 7 y40),(.slice 8353 0 5 15)])],part:=(no (no (no .nil (no (no dO (no .nil (no .nil (no .nil (no (no (no (no (no (lf (.cells 9 (nd Ed (nd ZM rx AQ) tK))) .nil) .nil) .nil) .nil) .nil))))) dA)) (no (no (no gK sa) .nil) .nil)) uE),nx:=8554,ok:=true,v:=y18,out:=(no (no (no .nil (no (no .nil (no .nil (no .nil (no .nil (no (no (no (no (no (lf (.cells 9 (nd Ed (nd ZM (nd a8 Ow .nil) AQ) (nd y41 (nd TD tq .nil) By)))) .nil) .nil) .nil) .nil) .nil))))) .nil)) (no (no (no .nil (no .nil (no .nil (no .nil (no (no (no (no tz .nil) .nil) .nil) .nil))))) .nil) .nil)) (no .nil (no (no (no .nil (no .nil (no .nil (no .nil (no (no (no (no rN .nil) .nil) .nil) .nil))))) .nil) .nil))),nx':=8668,wr:=[8434,8433,8435]}
theorem Aws:∀[F:Facts],Ap (Env.ofS Tryz.prog [] []) 1000000 zf=true:=by
 intro F
 kernel_rfl
theorem AB0 (G:Nat→D→D):zf.Valid Tryz.prog G:=Ai.val (okE _ []) (w0 G) Aws
noncomputable def Ap3:Orc:=
 {f:=40,args:=[(.slice 8681 0 4 1),(.str 1 32)],part:=(no (no .nil (no (no .nil (no (no .nil (no .nil (no .nil (no .nil (no (no (no (no (lf (.cells 4 (nd y48 (nd HZ dG .nil) OC))) .nil) .nil) .nil) .nil))))) .nil)) .nil)) .nil),nx:=8682,ok:=true,v:=(.str 15 250226659837433429402781235182595701),out:=.nil,nx':=8682,wr:=[]}
theorem Avg (G:Nat→D→D):Ap3.Valid Tryz.prog G:=Orc.Valid.join Av Ak (by kernel_rfl)
noncomputable def Aoj:Orc:=
 {f:=40,args:=[(.slice 8691 0 4 1),(.str 1 32)],part:=(no (no (no .nil (no (no .nil (no .nil (no .nil (no .nil (no .nil (no (no (no (no (lf (.cells 4 (nd y48 (nd HZ dq .nil) OC))) .nil) .nil) .nil) .nil)))))) .nil)) .nil) .nil),nx:=8692,ok:=true,v:=(.str 14 1036975446969006574165305882603125),out:=.nil,nx':=8692,wr:=[]}
theorem ABn (G:Nat→D→D):Aoj.Valid Tryz.prog G:=Orc.Valid.join Av Ak (by kernel_rfl)
noncomputable def Am2:Orc:=
 {f:=40,args:=[(.slice 8701 0 4 1),(.str 1 32)],part:=(no (no .nil (no .nil (no .nil (no .nil (no .nil (no .nil (no .nil (no .nil (no (no (no (no (lf (.cells 4 (nd y48 (nd Y8 (lf oW) .nil) OC))) .nil) .nil) .nil) .nil))))))))) .nil),nx:=8702,ok:=true,v:=(.str 15 250287507066244384485547721020960373),out:=.nil,nx':=8702,wr:=[]}
theorem As8 (G:Nat→D→D):Am2.Valid Tryz.prog G:=Orc.Valid.join Av Ak (by kernel_rfl)
noncomputable def Ak9:Orc:=
 {f:=40,args:=[(.slice 8711 0 4 1),(.str 1 32)],part:=(no (no (no (no .nil (no (no (no vH .nil) .nil) .nil)) .nil) .nil) .nil),nx:=8712,ok:=true,v:=wI,out:=.nil,nx':=8712,wr:=[]}
theorem Au5 (G:Nat→D→D):Ak9.Valid Tryz.prog G:=Orc.Valid.join Av Ak (by kernel_rfl)
noncomputable def Ak1:Orc:=
 {f:=40,args:=[(.slice 8722 0 4 1),(.str 1 32)],part:=(no .nil (no .nil (no (no (no .nil (no (no uw .nil) .nil)) .nil) .nil))),nx:=8723,ok:=true,v:=qo,out:=.nil,nx':=8723,wr:=[]}
theorem Azz (G:Nat→D→D):Ak1.Valid Tryz.prog G:=Orc.Valid.join Av Ak (by kernel_rfl)
noncomputable def Agg:Orc:=
 {f:=40,args:=[(.slice 8737 0 4 1),(.str 1 32)],part:=(no (no .nil (no (no (no (no .nil (no (no (no (no .nil (no (no (no (lf (.cells 4 (nd y48 (nd HZ H9 .nil) OC))) .nil) .nil) .nil)) .nil) .nil) .nil)) .nil) .nil) .nil)) .nil),nx:=8738,ok:=true,v:=(.str 15 281380440988642395173964213157916277),out:=.nil,nx':=8738,wr:=[]}
theorem Ayp (G:Nat→D→D):Agg.Valid Tryz.prog G:=Orc.Valid.join Av Ak (by kernel_rfl)
noncomputable def Aqn:Orc:=
 {f:=40,args:=[(.slice 8748 0 4 1),(.str 1 32)],part:=(no .nil (no (no .nil (no .nil (no (no .nil (no (no (no (no .nil (no (no (no (lf (.cells 4 (nd y48 (nd HZ zD .nil) OC))) .nil) .nil) .nil)) .nil) .nil) .nil)) .nil))) .nil)),nx:=8749,ok:=true,v:=(.str 16 64053190739922998980455944075890421365),out:=.nil,nx':=8749,wr:=[]}
theorem Ax8 (G:Nat→D→D):Aqn.Valid Tryz.prog G:=Orc.Valid.join Av Ak (by kernel_rfl)
noncomputable def Aeo:Orc:=
 {f:=40,args:=[(.slice 8758 0 4 1),(.str 1 32)],part:=(no .nil (no .nil (no .nil (no (no .nil (no .nil (no (no (no (no .nil (no (no (no (lf (.cells 4 (nd y48 (nd Y8 dG .nil) OC))) .nil) .nil) .nil)) .nil) .nil) .nil))) .nil)))),nx:=8759,ok:=true,v:=(.str 15 250226659837433429474275879267102325),out:=.nil,nx':=8759,wr:=[]}
theorem Awg (G:Nat→D→D):Aeo.Valid Tryz.prog G:=Orc.Valid.join Av Ak (by kernel_rfl)
noncomputable def Ajs:Orc:=
 {f:=40,args:=[(.slice 8768 0 4 1),(.str 1 32)],part:=(no .nil (no (no (no (no (no (no .nil vH) .nil) .nil) .nil) .nil) .nil)),nx:=8769,ok:=true,v:=wI,out:=.nil,nx':=8769,wr:=[]}
theorem Azy (G:Nat→D→D):Ajs.Valid Tryz.prog G:=Orc.Valid.join Av Ak (by kernel_rfl)
noncomputable def Ahr:Orc:=
 {f:=40,args:=[(.slice 8779 0 4 1),(.str 1 32)],part:=(no (no (no .nil (no .nil (no (no (no .nil uw) .nil) .nil))) .nil) .nil),nx:=8780,ok:=true,v:=qo,out:=.nil,nx':=8780,wr:=[]}
theorem As7 (G:Nat→D→D):Ahr.Valid Tryz.prog G:=Orc.Valid.join Av Ak (by kernel_rfl)
noncomputable def Al3:Orc:=
 {f:=40,args:=[(.slice 8785 0 17 1),(.str 1 10)],part:=(no (no .nil (no (no (no .nil (no (no .nil (no (no (no .nil (no (no (no (lf (ceL 17 [[(.str 17 20230114846168836499502513856238484157040),(.str 15 639311170875024104231941597654377837),(.str 27 24348633620765139578342365229691065037994084179175879144377819168),(.str 23 5670206127623923000637235734745519963461544031585247264),(.str 26 95111923640899788040651497100335944389224902174682229435932704),qb,wH,y60,Ar6,(.str 26 95149512691526146562482878915019968803161004736995526301261856)],[(.str 25 371530575204498027177230155298114018510089433501548416081952),(.str 27 24348633620765139578364491750317732140642326649649522440559534112),qb,wH,y60,(.str 14 1205888346899349115443897016874099),Ad]])) .nil) .nil) .nil)) .nil) .nil)) .nil)) .nil) .nil)) .nil),nx:=8786,ok:=true,v:=CW,out:=.nil,nx':=8786,wr:=[]}
theorem Aun (G:Nat→D→D):Al3.Valid Tryz.prog G:=Orc.Valid.join Av Ak (by kernel_rfl)
noncomputable def kD:Orc:=
 {f:=19,args:=[(.agg [(.str 7 Gm),(.slice 8355 0 2 2),(.str 7 y40)])],part:=sM,nx:=8426,ok:=true,v:=(.tuple [(.str 343 jf),(iN 0)]),out:=.nil,nx':=8786,wr:=[]}
theorem Atd:∀[F:Facts],Ap (Env.ofS Tryz.prog [Al3,Ahr,Ajs,Aeo,Aqn,Agg,Ak1,Ak9,Am2,Aoj,Ap3,zf,Abj] []) 1000000 kD=true:=by
 intro F
 kernel_rfl
theorem Awc (G:Nat→D→D):kD.Valid Tryz.prog G:=Ai.val (okE _ []) (.cons (Aun G) (.cons (As7 G) (.cons (Azy G) (.cons (Awg G) (.cons (Ax8 G) (.cons (Ayp G) (.cons (Azz G) (.cons (Au5 G) (.cons (As8 G) (.cons (ABn G) (.cons (Avg G) (.cons (AB0 G) (.cons (Ayb G) (w0 G)))))))))))))) Atd
noncomputable def Abw:Orc:=aK.move 4096
theorem ABp (G:Nat→D→D):Abw.Valid Tryz.prog G:=Orc.Valid.move (Aak G) (by kernel_rfl) 4096
noncomputable def mL:Orc:=
 {f:=18,args:=[(.agg [(.str 7 Gm),(.slice 5366 0 2 2),(.str 7 y40)]),(.agg [(.str 7 Gm),(.slice 12451 0 2 2),(.str 7 y40)])],part:=(no (no (no .nil (no (no (no .nil (no (no .nil (no (no (no (no (no .nil (lf (.cells 4 (nd JM (nd (.slice 12443 0 5 15) (lf (.slice 12449 0 5 15)) .nil) Ow)))) .nil) .nil) .nil) .nil)) vW)) .nil) (no .nil (no (no (no .nil (no (no (no (no (no .nil tU) .nil) .nil) .nil) .nil)) .nil) .nil)))) (no (no (no (no .nil (no (no .nil (no (no (no (no (no .nil ou) .nil) .nil) .nil) .nil)) .nil)) .nil) rD) .nil)) sg),nx:=12522,ok:=true,v:=y13,out:=.nil,nx':=12568,wr:=[]}
theorem Ati:∀[F:Facts],Ap (Env.ofS Tryz.prog [] []) 1000000 mL=true:=by
 intro F
 kernel_rfl
theorem Az5 (G:Nat→D→D):mL.Valid Tryz.prog G:=Ai.val (okE _ []) (w0 G) Ati
noncomputable def yo:Orc:=dM.move 12288
theorem Azr (G:Nat→D→D):yo.Valid Tryz.prog G:=Orc.Valid.move (Ajn G) (by kernel_rfl) 12288
noncomputable def xN:Orc:=aK.move 12288
theorem As6 (G:Nat→D→D):xN.Valid Tryz.prog G:=Orc.Valid.move (Aak G) (by kernel_rfl) 12288
noncomputable def l9:Orc:=
 {f:=18,args:=[(.agg [(.str 7 Gm),(.slice 17654 0 2 2),(.str 7 y40)]),(.agg [(.str 7 Gm),(.slice 20643 0 2 2),(.str 7 y40)])],part:=(no (no (no .nil (no (no (no .nil (no (no .nil (no (no (no (no (no .nil (no (lf (.cells 4 (nd JM (nd (.slice 20635 0 5 15) (lf (.slice 20641 0 5 15)) .nil) Ow))) .nil)) .nil) .nil) .nil) .nil)) (no .nil (no (no (no .nil sn) .nil) .nil)))) .nil) (no .nil (no (no (no .nil (no (no (no (no (no .nil tZ) .nil) .nil) .nil) .nil)) .nil) .nil)))) (no (no (no (no .nil (no (no .nil (no (no qX .nil) .nil)) .nil)) .nil) (no (no .nil (no .nil (no (no .nil (no .nil pT)) .nil))) .nil)) .nil)) (no .nil (no .nil (no (no .nil (no .nil (no .nil (no .nil (no (no (no .nil (no (no (no (lf (.cells 4 (nd JM (nd (.slice 17257 0 5 15) (lf (.slice 17635 0 5 15)) .nil) Ow))) .nil) .nil) .nil)) .nil) .nil))))) .nil)))),nx:=20714,ok:=true,v:=y13,out:=.nil,nx':=20760,wr:=[]}
theorem Aww:∀[F:Facts],Ap (Env.ofS Tryz.prog [] []) 1000000 l9=true:=by
 intro F
 kernel_rfl
theorem Avx (G:Nat→D→D):l9.Valid Tryz.prog G:=Ai.val (okE _ []) (w0 G) Aww
noncomputable def zZ:Orc:=o16.move 102395
theorem Awl (G:Nat→D→D):zZ.Valid Tryz.prog G:=Orc.Valid.move (w16 G) (by kernel_rfl) 102395
end Go.Proofs.YtmjeljjkhblgeaaGreatDoor.familyDefines

