/- What is proved: that certain calls which the law FamilyDefines makes come to the results that are written here (part 13 of 16). Conditions: the memory that such a call reaches is as written here; the kernel runs the evaluator over each. -/
import Derived.Test.YtmjeljjkhblgeaaGreatDoorFamilyDefinesKnownA
set_option linter.unusedVariables false
set_option linter.unusedSectionVars false
set_option linter.unusedSimpArgs false
namespace Go.Proofs.YtmjeljjkhblgeaaGreatDoor.familyDefines
open Go.AE
noncomputable def ye:Cor:=
 {f:=252,nt:=72,td:=(Aj (Env.of Tryz.prog) 252 2),tmps:=(nd (pN 4118) (no (nd DI (nd I8 Lp (nd (pN 4118) uJ AC)) (nd Iv (nd (pN 4118) (nd (pN 4118) (lf (.slice 4872 0 139 5)) .nil) Lm) (nd (iN 540) Me (lf (.ptr 4875 1))))) (nd (iN 481) (nd J8 (nd (pN 4118) (lf (.agg [(iN 24),(iN 17)])) AC) (nd (pN 4118) AC (lf (iN 482)))) (nd Jv (nd (iN 481) (nd (pN 4118) (lf (.slice 4878 0 1 5)) .nil) AC) ul))) (nd vI (nd (pN 4875) LF (nd (pN 4118) (nd DF (nd (pN 4118) (lf (.agg [(iN 2),(.str 1 48),(iN 0),(iN 24),(iN 17)])) .nil) uJ) (nd y21 (lf (.func (.func 285) [] [(pN 4875)])) (lf (pN 4875))))) (nd (pN 4118) (nd (pN 4118) (nd (pN 4118) (lf (.agg [(iN 0),(.str 0 0),(iN 0),(iN 24),(iN 17)])) AC) (nd CV AC aZ)) (nd DI (nd (pN 4118) (nd DF (lf vI) .nil) AC) LD)))),part:=(no (no (no (no (no .nil (no (no (no (no .nil (no .nil (no (no (lf (ceL 700 [Jn,BK,Jo,J5,I3,J2,It,Iu,Ml,Lz,Lj,LZ,K1,Lk,Md,Lw,Mn,Oy,OQ,Pa,NG,OH,OA,O0,N7,Rb,Qp,QG,PX,Ql,Qe,y99,Qz,VD,S4,Vf,TB,V6,VI,Wl,T8,Wf,Th,ae,ZA,Y5,YF,Wu,XS,Zz,ZW,i4,iC,j9,ey,il,fa,fW,dI,i7,Q5,sL,wJ,oF,rL,vi,nO,xw,xj,xf])) .nil) .nil))) .nil) .nil) .nil)) iS) (no .nil sJ)) .nil) (no .nil (no .nil (no (no .nil (no (no (no (no (no (no (no (lf (.cells 4 (nd CV (nd (iN 482) Hb .nil) My))) .nil) .nil) .nil) .nil) .nil) .nil) .nil)) sJ)))),nx:=4880,ok:=true,v:=Ht,out:=IU,nx':=4964,wr:=[4118,4879]}
theorem Axl:∀[F:Facts],An (Env.ofS Tryz.prog [] []) noB 1000000 ye=true:=by
 intro F
 kernel_rfl
theorem Az0 (G:Nat→D→D):ye.Valid Tryz.prog G:=Cor.last (okE _ []) (w0 G) Axl
noncomputable def Acm:Cor:=
 {f:=252,nt:=72,td:=(Aj (Env.of Tryz.prog) 252 2),tmps:=(nd (pN 4118) (no (nd DI (nd I8 Lp (nd (pN 4118) uk AC)) (nd Iv (nd (pN 4118) (nd (pN 4118) (lf (.slice 4772 0 121 5)) .nil) Lm) (nd (iN 540) Me (lf (.ptr 4774 1))))) (nd (iN 422) (nd J8 (nd (pN 4118) (lf (.agg [(iN 22),(iN 7)])) AC) (nd (pN 4118) AC (lf (iN 423)))) (nd Jv (nd (iN 422) (nd (pN 4118) (lf (.slice 4776 0 1 5)) .nil) AC) Wt))) (nd rQ (nd (pN 4774) LF (nd (pN 4118) (nd DF (nd (pN 4118) (lf (.agg [(iN 4),(.str 1 58),(iN 0),(iN 22),(iN 7)])) .nil) uk) (nd y21 (lf (.func (.func 285) [] [(pN 4774)])) (lf (pN 4774))))) (nd (pN 4118) (nd (pN 4118) (nd (pN 4118) (lf (.agg [(iN 0),(.str 0 0),(iN 0),(iN 22),(iN 7)])) AC) (nd CV AC eA)) (nd DI (nd (pN 4118) (nd DF (lf rQ) .nil) AC) LD)))),part:=(no (no gv (no (no .nil (no (no .nil (no (no .nil (no (no .nil (no (no (lf (ceL 610 [Jn,BK,Jo,J5,I3,J2,It,Iu,Ml,Lz,Lj,LZ,K1,Lk,Md,Lw,Mn,Oy,OQ,Pa,NG,OH,OA,O0,N7,Rb,Qp,QG,PX,Ql,Qe,y99,Qz,VD,S4,Vf,TB,V6,VI,Wl,T8,Wf,Th,ae,ZA,Y5,YF,Wu,XS,Zz,ZW,i4,iC,j9,ey,il,fa,fW,dI,i7,Q5])) .nil) .nil)) .nil)) .nil)) .nil)) .nil)) (no (no (no .nil (no oq .nil)) .nil) (no .nil (no (no oq (no (no (no (no (no (no (no (lf (.cells 4 (nd CV (nd (iN 423) Fr .nil) HQ))) .nil) .nil) .nil) .nil) .nil) .nil) .nil)) .nil)))),nx:=4778,ok:=true,v:=Ht,out:=IU,nx':=4964,wr:=[4118,4777]}
theorem AA0:∀[F:Facts],An (Env.ofS Tryz.prog [] []) ye.base 1274 Acm=true:=by
 intro F
 kernel_rfl
theorem AAf (G:Nat→D→D):Acm.Valid Tryz.prog G:=Cor.next (okE _ []) (w0 G) (Az0 G) AA0
noncomputable def zz:Cor:=
 {f:=252,nt:=72,td:=(Aj (Env.of Tryz.prog) 252 2),tmps:=(nd (pN 4118) (no (nd DI (nd I8 Lp (nd (pN 4118) th AC)) (nd Iv (nd (pN 4118) (nd (pN 4118) (lf (.slice 4671 0 102 5)) .nil) Lm) (nd (iN 540) Me (lf (.ptr 4673 1))))) (nd (iN 362) (nd J8 (nd (pN 4118) Apv AC) (nd (pN 4118) AC (lf (iN 364)))) (nd Jv (nd (iN 362) (nd (pN 4118) (lf (.slice 4675 0 1 5)) .nil) AC) Wt))) (nd s9 (nd (pN 4673) LF (nd (pN 4118) (nd DF (nd (pN 4118) (lf (.agg [(iN 4),(.str 2 11822),(iN 0),(iN 19),(iN 20)])) .nil) th) (nd y21 (lf (.func (.func 285) [] [(pN 4673)])) (lf (pN 4673))))) (nd (pN 4118) (nd (pN 4118) (nd (pN 4118) Aiu AC) pA) (nd DI (nd (pN 4118) (nd DF (lf s9) .nil) AC) LD)))),part:=(no (no (no fD qZ) (no qZ .nil)) (no (no .nil (no (no (no (no .nil (no (no (no .nil (no (no (lf (ceL 515 [Jn,BK,Jo,J5,I3,J2,It,Iu,Ml,Lz,Lj,LZ,K1,Lk,Md,Lw,Mn,Oy,OQ,Pa,NG,OH,OA,O0,N7,Rb,Qp,QG,PX,Ql,Qe,y99,Qz,VD,S4,Vf,TB,V6,VI,Wl,T8,Wf,Th,ae,ZA,Y5,YF,Wu,XS,Zz,ZW,[(iN 4),y22,(iN 0),(iN 19),(iN 20)]])) .nil) .nil)) .nil) .nil)) .nil) .nil) .nil)) (no .nil (no (no .nil (no (no (no (no (no (no (no (lf (.cells 4 (nd CV (nd (iN 364) HQ .nil) Ry))) .nil) .nil) .nil) .nil) .nil) .nil) .nil)) .nil)))),nx:=4677,ok:=true,v:=Ht,out:=IU,nx':=4964,wr:=[4118,4676]}
theorem Ayx:∀[F:Facts],An (Env.ofS Tryz.prog [] []) Acm.base 1240 zz=true:=by
 intro F
 kernel_rfl
theorem ABm (G:Nat→D→D):zz.Valid Tryz.prog G:=Cor.next (okE _ []) (w0 G) (AAf G) Ayx
noncomputable def Aa6:Cor:=
 {f:=252,nt:=72,td:=(Aj (Env.of Tryz.prog) 252 2),tmps:=(nd (pN 4118) (no (nd DI (nd I8 Lp (nd (pN 4118) om AC)) (nd Iv (nd (pN 4118) (nd (pN 4118) (lf (.slice 4578 0 85 5)) .nil) Lm) (nd (iN 540) Me (lf (.ptr 4580 1))))) (nd (iN 307) (nd J8 (nd (pN 4118) (lf (.agg [(iN 16),(iN 51)])) AC) (nd (pN 4118) AC (lf (iN 308)))) (nd Jv (nd (iN 307) (nd (pN 4118) te .nil) AC) Wt))) (nd uT (nd (pN 4580) LF (nd (pN 4118) (nd DF (nd (pN 4118) (lf (.agg [(iN 4),(.str 1 59),(iN 0),(iN 16),(iN 51)])) .nil) om) (nd y21 (lf (.func (.func 285) [] [(pN 4580)])) (lf (pN 4580))))) (nd (pN 4118) (nd (pN 4118) (nd (pN 4118) (lf (.agg [(iN 0),(.str 0 0),(iN 0),(iN 16),(iN 51)])) AC) (nd CV AC bl)) (nd DI (nd (pN 4118) (nd DF (lf uT) .nil) AC) LD)))),part:=(no (no (no (no .nil (no (no .nil (no .nil (no .nil (no .nil (no (no (no (lf (ceL 430 [Jn,BK,Jo,J5,I3,J2,It,Iu,Ml,Lz,Lj,LZ,K1,Lk,Md,Lw,Mn,Oy,OQ,Pa,NG,OH,OA,O0,N7,Rb,Qp,QG,PX,Ql,Qe,y99,Qz,VD,S4,Vf,TB,V6,VI,Wl,T8,Wf,Th])) .nil) .nil) .nil))))) nY)) .nil) .nil) (no (no .nil (no (no nF .nil) .nil)) (no .nil (no (no nF (no (no (no (no (no (no (no (lf (.cells 4 (nd CV (nd (iN 308) ya .nil) EE))) .nil) .nil) .nil) .nil) .nil) .nil) .nil)) .nil)))),nx:=4584,ok:=true,v:=Ht,out:=IU,nx':=4964,wr:=[4118,4583]}
theorem AAz:∀[F:Facts],An (Env.ofS Tryz.prog [] []) zz.base 1226 Aa6=true:=by
 intro F
 kernel_rfl
theorem Axp (G:Nat→D→D):Aa6.Valid Tryz.prog G:=Cor.next (okE _ []) (w0 G) (ABm G) AAz
noncomputable def Ab8:Cor:=
 {f:=252,nt:=72,td:=(Aj (Env.of Tryz.prog) 252 2),tmps:=(nd (pN 4118) (no (nd DI (nd I8 Lp (nd (pN 4118) vY AC)) (nd Iv (nd (pN 4118) (nd (pN 4118) (lf (.slice 4475 0 66 5)) .nil) Lm) (nd (iN 540) Me (lf (.ptr 4477 1))))) (nd (iN 252) (nd J8 (nd (pN 4118) (lf (.agg [(iN 15),(iN 17)])) AC) (nd (pN 4118) AC Am1)) (nd Jv (nd (iN 252) (nd (pN 4118) (lf (.slice 4479 0 1 5)) .nil) AC) Wt))) (nd pm (nd (pN 4477) LF (nd (pN 4118) (nd DF (nd (pN 4118) (lf (.agg [(iN 4),(.str 2 11822),(iN 0),(iN 15),(iN 17)])) .nil) vY) (nd y21 (lf (.func (.func 285) [] [(pN 4477)])) (lf (pN 4477))))) (nd (pN 4118) (nd (pN 4118) (nd (pN 4118) (lf (.agg [(iN 0),(.str 0 0),(iN 0),(iN 15),(iN 17)])) AC) pA) (nd DI (nd (pN 4118) (nd DF (lf pm) .nil) AC) LD)))),part:=(no (no (no (no (no (no (no (no .nil xe) .nil) .nil) .nil) iS) .nil) (no .nil (no .nil (no .nil (no .nil (no .nil (no xe .nil))))))) (no (no (no (no (no (no (no .nil (no .nil (no (no (no (lf (ceL 335 [Jn,BK,Jo,J5,I3,J2,It,Iu,Ml,Lz,Lj,LZ,K1,Lk,Md,Lw,Mn,Oy,OQ,Pa,NG,OH,OA,O0,N7,Rb,Qp,QG,PX,Ql,Qe,y99,Qz,[(iN 4),y22,(iN 0),(iN 15),(iN 17)]])) .nil) .nil) .nil))) .nil) .nil) .nil) .nil) .nil) (no .nil (no (no .nil (no (no (no (no (no (no (no (lf (.cells 4 (nd CV (nd (iN 254) Ry .nil) Pl))) .nil) .nil) .nil) .nil) .nil) .nil) .nil)) .nil)))),nx:=4481,ok:=true,v:=Ht,out:=IU,nx':=4964,wr:=[4118,4480]}
theorem ABj:∀[F:Facts],An (Env.ofS Tryz.prog [] []) Aa6.base 1240 Ab8=true:=by
 intro F
 kernel_rfl
theorem Axr (G:Nat→D→D):Ab8.Valid Tryz.prog G:=Cor.next (okE _ []) (w0 G) (Axp G) ABj
noncomputable def Adf:Cor:=
 {f:=252,nt:=72,td:=(Aj (Env.of Tryz.prog) 252 2),tmps:=(nd (pN 4118) (no (nd DI (nd I8 Lp (nd (pN 4118) YE AC)) (nd Iv (nd (pN 4118) (nd (pN 4118) um .nil) Lm) (nd (iN 540) Me (lf (.ptr 4384 1))))) (nd (iN 203) (nd J8 (nd (pN 4118) (lf (.agg [(iN 13),(iN 14)])) AC) (nd (pN 4118) AC mR)) (nd Jv (nd (iN 203) (nd (pN 4118) (lf (.slice 4387 0 1 5)) .nil) AC) ul))) (nd vm (nd (pN 4384) LF (nd (pN 4118) (nd DF (nd (pN 4118) (lf (.agg [(iN 2),(.str 1 56),(iN 8),(iN 13),(iN 14)])) .nil) YE) (nd y21 (lf (.func (.func 285) [] [(pN 4384)])) (lf (pN 4384))))) (nd (pN 4118) (nd (pN 4118) (nd (pN 4118) (lf (.agg [(iN 0),(.str 0 0),(iN 0),(iN 13),(iN 14)])) AC) (nd CV AC FZ)) (nd DI (nd (pN 4118) (nd DF (lf vm) .nil) AC) LD)))),part:=(no (no (no fD vA) .nil) (no (no vA (no (no (no .nil (no (no (no .nil (no (no (no (lf (ceL 250 [Jn,BK,Jo,J5,I3,J2,It,Iu,Ml,Lz,Lj,LZ,K1,Lk,Md,Lw,Mn,Oy,OQ,Pa,NG,OH,OA,O0,N7])) .nil) .nil) .nil)) .nil) .nil)) .nil) .nil)) (no .nil (no (no .nil (no (no (no (no (no (no (no (lf (.cells 4 (nd CV (nd (iN 204) Pl .nil) PK))) .nil) .nil) .nil) .nil) .nil) .nil) .nil)) .nil)))),nx:=4389,ok:=true,v:=Ht,out:=IU,nx':=4964,wr:=[4118,4388]}
theorem Azv:∀[F:Facts],An (Env.ofS Tryz.prog [] []) Ab8.base 1144 Adf=true:=by
 intro F
 kernel_rfl
theorem Azi (G:Nat→D→D):Adf.Valid Tryz.prog G:=Cor.next (okE _ []) (w0 G) (Axr G) Azv
noncomputable def yi:Cor:=
 {f:=252,nt:=72,td:=(Aj (Env.of Tryz.prog) 252 2),tmps:=(nd (pN 4118) (no (nd DI (nd I8 Lp (nd (pN 4118) ot AC)) (nd Iv (nd (pN 4118) (nd (pN 4118) pD .nil) Lm) (nd (iN 540) Me wv))) (nd (iN 142) (nd J8 (nd (pN 4118) (lf (.agg [(iN 9),(iN 9)])) AC) (nd (pN 4118) AC xr)) (nd Jv (nd (iN 142) (nd (pN 4118) uS .nil) AC) (nd (pN 4118) y14 AQ)))) (nd de (nd (pN 4296) LF (nd (pN 4118) (nd DF (nd (pN 4118) (lf (.agg [(iN 1),(.str 4 1819047246),(iN 0),(iN 9),(iN 9)])) .nil) ot) qD)) (nd (pN 4118) (nd (pN 4118) (nd (pN 4118) (lf (.agg [(iN 0),(.str 0 0),(iN 0),(iN 9),(iN 9)])) AC) (nd CV AC ac)) (nd DI (nd (pN 4118) (nd DF ry .nil) AC) LD)))),part:=(no (no gv ri) (no ri (no (no .nil (no (no (no .nil (no .nil (no (no (no (no (lf (ceL 170 [Jn,BK,Jo,J5,I3,J2,It,Iu,Ml,Lz,Lj,LZ,K1,Lk,Md,Lw,Mn])) .nil) .nil) .nil) .nil))) .nil) .nil)) (no (no .nil (no (no (no (no (no (no (no (lf (.cells 4 (nd CV (nd (iN 146) PK .nil) ND))) .nil) .nil) .nil) .nil) .nil) .nil) .nil)) .nil)))),nx:=4299,ok:=true,v:=Ht,out:=IU,nx':=4964,wr:=[4118,4298]}
theorem Az8:∀[F:Facts],An (Env.ofS Tryz.prog [] []) Adf.base 1301 yi=true:=by
 intro F
 kernel_rfl
theorem Az6 (G:Nat→D→D):yi.Valid Tryz.prog G:=Cor.next (okE _ []) (w0 G) (Azi G) Az8
noncomputable def Acu:Cor:=
 {f:=252,nt:=72,td:=(Aj (Env.of Tryz.prog) 252 2),tmps:=(nd (pN 4118) (no (nd DI (nd I8 Lp (nd (pN 4118) wQ AC)) (nd Iv (nd (pN 4118) (nd (pN 4118) (lf (.slice 4203 0 16 5)) .nil) Lm) (nd (iN 540) Me (lf (.ptr 4206 1))))) (nd (iN 85) (nd J8 (nd (pN 4118) (lf (.agg [(iN 5),(iN 16)])) AC) (nd (pN 4118) AC (lf (iN 86)))) (nd Jv (nd (iN 85) (nd (pN 4118) (lf (.slice 4208 0 1 5)) .nil) AC) Wt))) (nd qe (nd (pN 4206) LF (nd (pN 4118) (nd DF (nd (pN 4118) (lf (.agg [(iN 4),(.str 1 123),(iN 0),(iN 5),(iN 16)])) .nil) wQ) (nd y21 (lf (.func (.func 285) [] [(pN 4206)])) (lf (pN 4206))))) (nd (pN 4118) (nd (pN 4118) (nd (pN 4118) (lf (.agg [(iN 0),(.str 0 0),(iN 0),(iN 5),(iN 16)])) AC) (nd CV AC zR)) (nd DI (nd (pN 4118) (nd DF (lf qe) .nil) AC) LD)))),part:=(no (no gv (no (no (no .nil (no .nil (no .nil (no (no (no (no (no (lf (ceL 85 [Jn,BK,Jo,J5,I3,J2,It,Iu,[(iN 4),y42,(iN 0),(iN 5),(iN 16)]])) .nil) .nil) .nil) .nil) .nil)))) .nil) .nil)) (no (no (no (no .nil nE) .nil) .nil) (no .nil (no (no .nil (no (no (no (no (no (no (no (lf (.cells 4 (nd CV (nd (iN 86) Kj .nil) Su))) .nil) .nil) .nil) .nil) .nil) .nil) .nil)) (no nE .nil))))),nx:=4210,ok:=true,v:=Ht,out:=IU,nx':=4964,wr:=[4118,4209]}
theorem Ayv:∀[F:Facts],An (Env.ofS Tryz.prog [] []) yi.base 1185 Acu=true:=by
 intro F
 kernel_rfl
theorem Atj (G:Nat→D→D):Acu.Valid Tryz.prog G:=Cor.next (okE _ []) (w0 G) (Az6 G) Ayv
noncomputable def Ab6:Orc:=
 {f:=252,args:=[(pN 4118)],part:=(no .nil (no .nil (no .nil (no (no .nil (no (no (no (no (no (no (no (lf (.cells 4 (nd CV PJ AQ))) .nil) .nil) .nil) .nil) .nil) .nil) .nil)) .nil)))),nx:=4119,ok:=true,v:=Ht,out:=IU,nx':=4964,wr:=[4118]}
theorem Aud:∀[F:Facts],BF (Env.ofS Tryz.prog [] []) Acu.base 1289 Ab6=true:=by
 intro F
 kernel_rfl
theorem Ax0 (G:Nat→D→D):Ab6.Valid Tryz.prog G:=Orc.first (okE _ []) (w0 G) (Atj G) Aud
end Go.Proofs.YtmjeljjkhblgeaaGreatDoor.familyDefines

