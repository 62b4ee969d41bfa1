/- What is proved: what the plain functions over data say, whose trees the text before writes out: the law MemoryBounds answers true. Conditions: those that each theorem states. -/
import Derived.Test.YtojjaeaohjlfnaaGreatMemoryBoundsPlainA
set_option linter.unusedVariables false
set_option linter.unusedSectionVars false
set_option linter.unusedSimpArgs false
open Go.IntKind (wrap)
namespace Mz
open Go Go.AE
section
variable [Ao]
structure EX'(v:D)(i:Nat)(k b lo hi base ck:Int):Prop where
 name:Cc (cl v i 0)=true
 new:∀j,j<i→D.strEq (cl v j 0) (cl v i 0)=false
 k12:k=1∨k=2→1≤b∧b≤32
 k3:k=3→0≤lo∧lo≤hi∧hi≤34359738367
 k4:k=4→SZ v (cl v i 8) base i
 k56:k=5∨k=6→0≤hi∧hi≤1048576
 k10:k=10→b=2∨b=4∨(8≤b∧b≤512∧ari .rem .i64 b 8=0)
 k11:k=11→1≤ck∧ck≤3
def EX(v:D)(i:Nat):Prop:=EX' v i (cl v i 1).toInt (cl v i 2).toInt (cl v i 5).toInt (cl v i 6).toInt (cl v i 7).toInt (cl v i 13).toInt
def RX(M N v:D)(i:Nat):Prop:=(kd v i=7∨kd v i=8→¬mIx [.str] M (.row [cl v i 9])<0)∧(kd v i=12→¬mIx [.str] N (.row [cl v i 9])<0)∧(kd v i=9→∀j:Nat,j<len (cl v i 12)→¬mIx [.str] M (.row [cl (cl v i 12) j 2])<0)
def Q16(M N v:D)(i:Nat)(d:D):Prop:=Lr d∨(d=.row [.int 2]∧EX v i∧RX M N v i)
theorem A3{M N v:D}{i:Nat}{a b c:Int}:Q16 M N v i (.row [.int 1,.int a,.int b,.int c]):=.inl ⟨_,_,_,rfl⟩
section
variable {v0 v1 v2 v3 v4 v7:D}{v5:Int}
theorem Xk{v8:D}{v6 lo hi n:Int}:∃F,Fd v0 v1 v2 v3 v4 (.int v5) (.int v6) v7 v8 (.int lo) (.int hi) (m1 n) (.bool false)=F∧((∃a b:Int,F=.row [.int 1,.int a,.int b])∨(F=.row [.int 2]∧lo≤n∧n≤hi)):=⟨_,rfl,da⟩
theorem zI{v8:D}{v6 lo hi n m:Int}:∃F,Fd v0 v1 v2 v3 v4 (.int v5) (.int v6) v7 v8 (.int lo) (.int hi) (m2 n m) (.bool false)=F∧((∃a b:Int,F=.row [.int 1,.int a,.int b])∨(F=.row [.int 2]∧lo≤n∧n≤m∧n≤hi∧m≤hi)):=⟨_,rfl,WM⟩
theorem jq{v:D}{i:Nat}(hv:FT v)(hi:i<len v)(T:DN v i):Q16 v3 v4 v i (YQ v0 v1 v2 v3 v4 (.int v5) (.int (i:Nat)) v7 v (cl v i 0) (cl v i 1) (cl v i 2) (cl v i 3) (cl v i 4) (cl v i 5) (cl v i 6) (cl v i 7) (cl v i 8) (cl v i 9) (cl v i 10) (cl v i 11) (cl v i 12) (cl v i 13) (cl v i 14)):=by
 obtain⟨e,L⟩:=hv.i1 i hi;obtain⟨q,U⟩:=hv.i2 i hi;obtain⟨V,h3⟩:=hv.b3 i hi;obtain⟨W,h4⟩:=hv.b4 i hi;obtain⟨z,X⟩:=hv.i5 i hi;obtain⟨t,Y⟩:=hv.i6 i hi;obtain⟨H,Z⟩:=hv.i7 i hi;obtain⟨w,C⟩:=hv.i13 i hi;obtain⟨A,M⟩:=hv.i14 i hi;have f:EX v i↔EX' v i e q z t H w:=by unfold EX;rw[L,U,X,Y,Z,C];exact Iff.rfl
 have few:=hv.few;have aa:kd v i=e:=by unfold kd;rw[L];rfl
 have r:e≠7∧e≠8∧e≠9∧e≠12→RX v3 v4 v i:=fun u=>⟨fun h=>by omega,fun h=>by omega,fun h=>by omega⟩
 have B:len (sb v 0 (i:Nat))=i:=by rw[Ni (by simp) (by simpa using Nat.le_of_lt hi)];simp
 rw[L,U,h3,h4,X,Y,Z,C,M]
 obtain⟨E,g0,H0⟩:∃F,QZ v0 v1 v2 v3 v4 (.int v5) (.int (i:Nat)) v7 v (cl v i 0) (.int e) (.int q) (.bool V) (.bool W) (.int z) (.int t) (.int H) (cl v i 8) (cl v i 9) (cl v i 10) (cl v i 11) (cl v i 12) (.int w) (.int A)=F∧(Lr F∨(F=.row [.int 2]∧SZ v (cl v i 8) H i)):=
  ⟨_,rfl,ly (by omega) (by omega) T (hv.nil8 i hi) (by have:=hv.len8 i hi;omega)⟩
 obtain⟨F3,g3,H3⟩:∃F,VQ v0 v1 v2 v3 v4 (.int v5) (.int (i:Nat)) v7 v (cl v i 0) (.int e) (.int q) (.bool V) (.bool W) (.int z) (.int t) (.int H) (cl v i 8) (cl v i 9) (cl v i 10) (cl v i 11) (cl v i 12) (.int w) (.int A)=F∧FR (∀j:Nat,j<len (cl v i 12)→¬mIx [.str] v3 (.row [cl (cl v i 12) j 2])<0) F:=
  ⟨_,rfl,ky hv (by omega) T (by have:=hv.len12 i hi;omega) (hv.case i hi)⟩
 obtain⟨I,g1,H1⟩:=zI (v0:=v0) (v1:=v1) (v2:=v2) (v3:=v3) (v4:=v4) (v5:=v5) (v7:=v7) (v8:=v) (v6:=(i:Nat)) (lo:=0) (hi:=wrap .i64 ((ari .shl .i64 1 q)-1)) (n:=z) (m:=t);obtain⟨J,g2,H2⟩:=Xk (v0:=v0) (v1:=v1) (v2:=v2) (v3:=v3) (v4:=v4) (v5:=v5) (v7:=v7) (v8:=v) (v6:=(i:Nat)) (lo:=0) (hi:=wrap .i64 ((ari .shl .i64 1 q)-1)) (n:=z);obtain⟨F5,g5,H5⟩:=zI (v0:=v0) (v1:=v1) (v2:=v2) (v3:=v3) (v4:=v4) (v5:=v5) (v7:=v7) (v8:=v) (v6:=(i:Nat)) (lo:=0) (hi:=34359738367) (n:=z) (m:=t);obtain⟨F7,g7,H7⟩:=Xk (v0:=v0) (v1:=v1) (v2:=v2) (v3:=v3) (v4:=v4) (v5:=v5) (v7:=v7) (v8:=v) (v6:=(i:Nat)) (lo:=0) (hi:=4294967295) (n:=A);obtain⟨F8,g8,H8⟩:=Xk (v0:=v0) (v1:=v1) (v2:=v2) (v3:=v3) (v4:=v4) (v5:=v5) (v7:=v7) (v8:=v) (v6:=(i:Nat)) (lo:=2) (hi:=1048576) (n:=t);obtain⟨K,g9,H9⟩:=Xk (v0:=v0) (v1:=v1) (v2:=v2) (v3:=v3) (v4:=v4) (v5:=v5) (v7:=v7) (v8:=v) (v6:=(i:Nat)) (lo:=0) (hi:=1048576) (n:=t);obtain⟨y,N,O⟩:=Xk (v0:=v0) (v1:=v1) (v2:=v2) (v3:=v3) (v4:=v4) (v5:=v5) (v7:=v7) (v8:=v) (v6:=(i:Nat)) (lo:=0) (hi:=255) (n:=z);obtain⟨ab,P,Q⟩:=Xk (v0:=v0) (v1:=v1) (v2:=v2) (v3:=v3) (v4:=v4) (v5:=v5) (v7:=v7) (v8:=v) (v6:=(i:Nat)) (lo:=1) (hi:=3) (n:=w);rw[qU _ _ _ _ _ _ _ _ _ _ _ _ _ _ _ _ _ _ _ _ _ _ _ _ g0 g1 g2 g3 (hY _) g5 (i8 _) g7 g8 g9 N P,WQ,Ye (by rw[B];omega),Ye (by rw[B];omega)]
 refine qT rfl ?_;cases o:Cc (cl v i 0)with
 |false=>exact A3
 |true=>
  refine(?_:Q16 v3 v4 v i (cond true _ _));rw[Aer,ifF (by omega),ifF (by omega)]
  refine qT rfl ?_;by_cases R:fld (sb v 0 (i:Nat)) (cl v i 0)<0
  ·have d:∀j,j<i→D.strEq (cl v j 0) (cl v i 0)=false:=fun j hj=>by
    have:=Iv (p:=fun j=>D.strEq (cl (sb v 0 (i:Nat)) j 0) (cl v i 0)) (k:=len (sb v 0 (i:Nat))) (i:=0) (j:=j) (by omega) (.inr ⟨R,by rw[B];omega⟩)
    simp only[O5 (Nat.le_of_lt hi) hj]at this;exact this
   refine qT R ?_;by_cases k1:e=1
   ·rw[ifT k1];refine qc (qT rfl (qc (qT rfl (qc ?_ A3)) A3)) A3;by_cases c1:q<1
    ·rw[ifT c1];exact A3
    ·rw[ifF c1];by_cases c2:32<q
     ·rw[ifT c2];exact A3
     ·rw[ifF c2];have ok:EX v i:=f.2 (by refine⟨o,d,?_,?_,?_,?_,?_,?_⟩<;>intro u<;>first | (exfalso;omega)|exact⟨by omega,by omega⟩)
      have fin:Q16 v3 v4 v i (cond (decide ((sl I 0).toInt=1)) (.row [.int 1,(sl I 1),(sl I 2),(.int 7)]) (cond (decide ((sl I 0).toInt=2)) (.row [.int 2]) (.row []))):=by
       rcases H1 with⟨a,b,g⟩|⟨g,_⟩
       ·subst g;exact qT rfl A3
       ·subst g;exact qF (by show ¬(2:Int)=1;decide) (qT rfl (.inr ⟨rfl,ok,r (by omega)⟩))
      exact qc (qc (qc fin A3) A3) fin
   ·rw[ifF k1];by_cases k2:e=2
    ·rw[ifT k2];refine qc (qT rfl (qc (qT rfl (qc ?_ A3)) A3)) A3;by_cases c1:q<1
     ·rw[ifT c1];exact A3
     ·rw[ifF c1];by_cases c2:32<q
      ·rw[ifT c2];exact A3
      ·rw[ifF c2];have ok:EX v i:=f.2 (by refine⟨o,d,?_,?_,?_,?_,?_,?_⟩<;>intro u<;>first | (exfalso;omega)|exact⟨by omega,by omega⟩)
       have fin:Q16 v3 v4 v i (cond (decide ((sl J 0).toInt=1)) (.row [.int 1,(sl J 1),(sl J 2),(.int 7)]) (cond (decide ((sl J 0).toInt=2)) (.row [.int 2]) (.row []))):=by
        rcases H2 with⟨a,b,g⟩|⟨g,_⟩
        ·subst g;exact qT rfl A3
        ·subst g;exact qF (by show ¬(2:Int)=1;decide) (qT rfl (.inr ⟨rfl,ok,r (by omega)⟩))
       exact qc (qc (qc fin A3) A3) fin
    ·rw[ifF k2];by_cases k3:e=3
     ·rw[ifT k3];refine qc (qT rfl (qc (qT rfl (qc ?_ A3)) A3)) A3;rcases H5 with⟨a,b,g⟩|⟨g,l⟩
      ·subst g;exact qT rfl A3
      ·subst g;refine qF (by show ¬(2:Int)=1;decide) (qT rfl (.inr ⟨rfl,f.2 ?_,r (by omega)⟩))
       refine⟨o,d,?_,?_,?_,?_,?_,?_⟩<;>intro u<;>first | (exfalso;omega)|exact⟨by omega,by omega,by omega⟩
     ·rw[ifF k3];by_cases k4:e=4
      ·rw[ifT k4];refine qc (qT rfl (qc ?_ A3)) A3;rcases H0 with⟨a,b,c,g⟩|⟨g,l⟩
       ·subst g;exact qT rfl A3
       ·subst g;refine qF (by show ¬(2:Int)=1;decide) (qT rfl (.inr ⟨rfl,f.2 ?_,r (by omega)⟩))
        refine⟨o,d,?_,?_,?_,?_,?_,?_⟩<;>intro u<;>first | (exfalso;omega)|exact l
      ·rw[ifF k4];by_cases k5:e=5
       ·rw[ifT k5];refine qc (qT rfl (qc (qT rfl (qc ?_ A3)) A3)) A3
        have r9:∀{x:D},(0≤t∧t≤1048576→Q16 v3 v4 v i x)→Q16 v3 v4 v i (cond (decide ((sl K 0).toInt=1)) (.row [.int 1,(sl K 1),(sl K 2),(.int 7)]) (cond (decide ((sl K 0).toInt=2)) x (.row []))):=fun s=>by
         rcases H9 with⟨a,b,g⟩|⟨g,l⟩
         ·subst g;exact qT rfl A3
         ·subst g;exact qF (by show ¬(2:Int)=1;decide) (qT rfl (s l))
        have G:∀{x:D},Q16 v3 v4 v i x→Q16 v3 v4 v i (cond (decide ((sl y 0).toInt=1)) (.row [.int 1,(sl y 1),(sl y 2),(.int 7)]) (cond (decide ((sl y 0).toInt=2)) x (.row []))):=fun s=>by
         rcases O with⟨a,b,g⟩|⟨g,l⟩
         ·subst g;exact qT rfl A3
         ·subst g;exact qF (by show ¬(2:Int)=1;decide) (qT rfl s)
        have ok:0≤t∧t≤1048576→Q16 v3 v4 v i (.row [.int 2]):=fun l=>.inr ⟨rfl,f.2 (by refine⟨o,d,?_,?_,?_,?_,?_,?_⟩<;>intro u<;>first | (exfalso;omega)|exact l),r (by omega)⟩
        first|exact r9 (fun l=>G (ok l))|exact G (r9 fun l=>ok l)
       ·rw[ifF k5];by_cases k6:e=6
        ·rw[ifT k6];refine qc (qT rfl (qc (qT rfl (qc ?_ A3)) A3)) A3;rcases H8 with⟨a,b,g⟩|⟨g,l⟩
         ·subst g;exact qT rfl A3
         ·subst g;refine qF (by show ¬(2:Int)=1;decide) (qT rfl (.inr ⟨rfl,f.2 ?_,r (by omega)⟩))
          refine⟨o,d,?_,?_,?_,?_,?_,?_⟩<;>intro u<;>first | (exfalso;omega)|exact⟨by omega,by omega⟩
        ·rw[ifF k6]
         have r0:(e≠4∧e≠10∧e≠11)→RX v3 v4 v i→Q16 v3 v4 v i (cond (decide ((sl E 0).toInt=1)) (.row [.int 1,(sl E 1),(sl E 2),(sl E 3)]) (cond (decide ((sl E 0).toInt=2)) (.row [.int 2]) (.row []))):=fun ac S=>by
          rcases H0 with⟨a,b,c,g⟩|⟨g,l⟩
          ·subst g;exact qT rfl A3
          ·subst g;refine qF (by show ¬(2:Int)=1;decide) (qT rfl (.inr ⟨rfl,f.2 ?_,S⟩))
           refine⟨o,d,?_,?_,?_,?_,?_,?_⟩<;>intro u<;>exfalso<;>omega
         by_cases k7:e=7
         ·rw[ifT k7];refine qc (qT rfl (qc ?_ A3)) A3;by_cases s:mIx [.str] v3 (.row [cl v i 9])<0
          ·rw[ifT s];exact A3
          ·rw[ifF s];exact r0 (by omega) ⟨fun _=>s,fun h=>by omega,fun h=>by omega⟩
         ·rw[ifF k7];by_cases k8:e=8
          ·rw[ifT k8];refine qc (qT rfl (qc (qT rfl (qc ?_ A3)) A3)) A3;by_cases s:mIx [.str] v3 (.row [cl v i 9])<0
           ·rw[ifT s];exact A3
           ·rw[ifF s];refine .inr ⟨rfl,f.2 ?_,⟨fun _=>s,fun h=>by omega,fun h=>by omega⟩⟩
            refine⟨o,d,?_,?_,?_,?_,?_,?_⟩<;>intro u<;>exfalso<;>omega
          ·rw[ifF k8];by_cases k9:e=9
           ·rw[ifT k9];refine qc (qT rfl (qc ?_ A3)) A3;rcases H3 with⟨a,b,c,g⟩|⟨g,l⟩
            ·subst g;exact qT rfl A3
            ·subst g;refine qF (by show ¬(2:Int)=1;decide) (qT rfl (.inr ⟨rfl,f.2 ?_,⟨fun h=>by omega,fun h=>by omega,fun _=>l⟩⟩))
             refine⟨o,d,?_,?_,?_,?_,?_,?_⟩<;>intro u<;>exfalso<;>omega
           ·rw[ifF k9];by_cases k10:e=10
            ·rw[ifT k10];refine qc (qT rfl (qc (qT rfl (qc ?_ A3)) A3)) A3;have ok:(q=2∨q=4∨(8≤q∧q≤512∧ari .rem .i64 q 8=0))→Q16 v3 v4 v i (.row [.int 2]):=fun l=>.inr ⟨rfl,f.2 (by refine⟨o,d,?_,?_,?_,?_,?_,?_⟩<;>intro u<;>first | (exfalso;omega)|exact l),r (by omega)⟩
             by_cases c1:q=2
             ·rw[ifT c1];exact ok (.inl c1)
             ·rw[ifF c1];by_cases c2:q=4
              ·rw[ifT c2];exact ok (.inr (.inl c2))
              ·rw[ifF c2];by_cases c3:q<8
               ·rw[ifT c3];exact A3
               ·rw[ifF c3];by_cases c4:512<q
                ·rw[ifT c4];exact A3
                ·rw[ifF c4];by_cases c5:ari .rem .i64 q 8=0
                 ·rw[ifT c5];exact ok (.inr (.inr ⟨by omega,by omega,c5⟩))
                 ·rw[ifF c5];exact A3
            ·rw[ifF k10];by_cases k11:e=11
             ·rw[ifT k11];refine qc (qT rfl (qc (qT rfl (qc ?_ A3)) A3)) A3;rcases Q with⟨a,b,g⟩|⟨g,l⟩
              ·subst g;exact qT rfl A3
              ·subst g;refine qF (by show ¬(2:Int)=1;decide) (qT rfl (qT rfl (qc A3 (.inr ⟨rfl,f.2 ?_,r (by omega)⟩))))
               refine⟨o,d,?_,?_,?_,?_,?_,?_⟩<;>intro u<;>first | (exfalso;omega)|exact l
             ·rw[ifF k11];by_cases k12:e=12
              ·rw[ifT k12];refine qc (qT rfl (qc ?_ A3)) A3;rcases H7 with⟨a,b,g⟩|⟨g,l⟩
               ·subst g;exact qT rfl A3
               ·subst g;refine qF (by show ¬(2:Int)=1;decide) (qT rfl ?_)
                by_cases s:mIx [.str] v4 (.row [cl v i 9])<0
                ·rw[ifT s];exact A3
                ·rw[ifF s];exact qc (r0 (by omega) ⟨fun h=>by omega,fun _=>s,fun h=>by omega⟩) A3
              ·rw[ifF k12];exact A3
  ·exact qF R A3
end
end
end Mz
namespace Mz
open Go Go.AE
theorem Ql{M a b x:D}:upd (ad M (.row [a,b])) (len M:Int) 1 x=ad M (.row [a,x]):=by
 have h:∀l:List D,(l++[D.row [a,b]]).modify l.length (fun r=>D.row (r.cells.set 1 x))=l++[D.row [a,x]]:=fun l=>by
  induction l with
  |nil=>rfl
  |cons y l ih=>simp[List.modify_succ_cons,ih]
 show D.slc false ((M.rows++[D.row [a,b]]).modify (len M) _)=D.slc false _;rw[show len M=M.rows.length from rfl,h]
section
variable [Ao]
structure MM(M N:D):Prop where
 ints:∀r∈M.rows,∃x n,r=.row [x,.int n]
 bools:∀r∈N.rows,∃x b,r=.row [x,.bool b]
 same:∀k,mIx [.str] M (.row [k])<0↔mIx [.str] N (.row [k])<0
theorem MM.empty:MM Al Al:=⟨fun r l=>(by cases l),fun r l=>(by cases l),fun k=>Iff.rfl⟩
theorem TQ{M r s:D}(h:s∈(ad M r).rows):s∈M.rows∨s=r:=(Aes.1 h).imp id Aeu.1
theorem MM.put{M N k:D}{n:Int}{b:Bool}(h:MM M N):MM (ad M (.row [k,.int n])) (ad N (.row [k,.bool b])):=by
 have h1:∀r∈M.rows,∃x l,r=.row (x::l):=fun r t=>by obtain⟨x,n,e⟩:=h.ints r t;exact⟨x,_,e⟩
 have h2:∀r∈N.rows,∃x l,r=.row (x::l):=fun r t=>by obtain⟨x,n,e⟩:=h.bools r t;exact⟨x,_,e⟩
 refine⟨fun r t=>(TQ t).elim (h.ints r) fun e=>⟨_,_,e⟩,fun r t=>(TQ t).elim (h.bools r) fun e=>⟨_,_,e⟩,fun q=>?_⟩
 rw[ME h1,ME h2];have I:=h.same q;by_cases a1:0≤mIx [.str] M (.row [q])
 ·have J:0≤mIx [.str] N (.row [q]):=Int.not_lt.1 fun hh=>absurd (I.2 hh) (by omega)
  rw[if_pos a1,if_pos J];exact I
 ·have J:¬0≤mIx [.str] N (.row [q]):=fun hh=>a1 (Int.not_lt.1 fun h3=>absurd (I.1 h3) (by omega))
  rw[if_neg a1,if_neg J];by_cases a2:D.strEq k q=true
  ·rw[if_pos a2,if_pos a2];constructor<;>intro _<;>omega
  ·rw[if_neg a2,if_neg a2]
theorem Y4{M:D}{i:Int}{c:Nat}(b:0≤i)(d:i<len M):∃r∈M.rows,cl M i c=sl r c:=by
 obtain⟨n,rfl⟩:=ue b;have a:n<M.rows.length:=by have:(n:Int)<len M:=d;unfold len at this;omega
 refine⟨M.rows[n],Aet a,?_⟩;have e:M.rows.getD n default=M.rows[n]:=by simp[F4,a]
 show(M.rows.getD n default).cells.getD c default=(M.rows[n]).cells.getD c default;rw[e]
theorem MM.int{M N k:D}(h:MM M N)(hk:¬mIx [.str] M (.row [k])<0):∃n,cl M (mIx [.str] M (.row [k])) 1=.int n:=by
 have J:∀r∈M.rows,∃x l,r=.row (x::l):=fun r t=>by obtain⟨x,n,e⟩:=h.ints r t;exact⟨x,_,e⟩
 have I:mIx [.str] M (.row [k])<len M:=by
  rw[CN J];have:=El (p:=fun i=>D.strEq (cl M i 0) k) (k:=len M) (i:=0);omega
 obtain⟨r,t,e⟩:=Y4 (c:=1) (by omega) I
 obtain⟨x,n,e2⟩:=h.ints r t;exact⟨n,by rw[e,e2];rfl⟩
theorem MM.bool{M N k:D}(h:MM M N)(hk:¬mIx [.str] N (.row [k])<0):∃n,cl N (mIx [.str] N (.row [k])) 1=.bool n:=by
 have J:∀r∈N.rows,∃x l,r=.row (x::l):=fun r t=>by obtain⟨x,n,e⟩:=h.bools r t;exact⟨x,_,e⟩
 have I:mIx [.str] N (.row [k])<len N:=by
  rw[CN J];have:=El (p:=fun i=>D.strEq (cl N i 0) k) (k:=len N) (i:=0);omega
 obtain⟨r,t,e⟩:=Y4 (c:=1) (by omega) I
 obtain⟨x,n,e2⟩:=h.bools r t;exact⟨n,by rw[e,e2];rfl⟩
theorem Hi{M a b:D}(c:∀r∈M.rows,∃x l,r=.row (x::l))(h:D.strEq a b=true):mIx [.str] M (.row [a])=mIx [.str] M (.row [b]):=by
 rw[CN c,CN c];refine CY fun j _ _=>?_
 rw[AQ,Jw h,AQ]
theorem MM.shape{M N:D}(h:MM M N):∀r∈M.rows,∃x l,r=.row (x::l):=fun r t=>by obtain⟨x,n,e⟩:=h.ints r t;exact⟨x,_,e⟩
def nms(l:List D):List D:=l.map fun x=>.row [x]
def RFi(v:D)(i:Nat):List D:=if kd v i=7∨kd v i=8∨kd v i=12 then [cl v i 9]else if kd v i=9 then (List.range (len (cl v i 12))).map fun(j:Nat)=>cl (cl v i 12) j 2 else []
def RF(v:D):Nat→List D
 |0=>[]
 |i+1=>RF v i++RFi v i
theorem br{v r:D}:∀{n:Nat},r∈RF v n→∃i,i<n∧r∈RFi v i
 |n+1,h=>by
  rcases Aes.1 h with c|c
  ·obtain⟨i,a,b⟩:=br c;exact⟨i,by omega,b⟩
  ·exact⟨n,by omega,c⟩
theorem Fc{v:D}(hv:FT v):∀n:Nat,n≤len v→(RF v n).length≤10*n
 |0,_=>R2 _
 |n+1,h=>by
  have:=Fc hv n (by omega)
  have a:=hv.len12 n (by omega)
  have:(RFi v n).length≤10:=by
   unfold RFi
   repeat' split
   all_goals simp
   all_goals omega
  rw[RF,pc];omega
def R17(v d:D):Prop:=∃l,d=.row [.int 1,l]∧l.rows=nms (RF v (len v))
theorem Lx{l:List D}{a x:D}(h:a.rows=nms l):(ad a (.row [x])).rows=nms (l++[x]):=by
 show a.rows++[_]=_;rw[h];simp[nms]
theorem Z6{v:D}(hv:FT v):∀k i (a:D) (b:Bool),i+k=len v→a.rows=nms (RF v i)→R17 v (HQ v (.int (i:Nat)) a (.bool b))
 |0,i,a,b,h,d=>by
  have:i=len v:=h;subst this;rw[gh,ifF (by omega)]
  exact⟨_,rfl,d⟩
 |k+1,i,a,b,h,d=>by
  have few:=hv.few;have x:=hv.len12 i (by omega)
  have t:=Fc hv i (by omega)
  have n:len a=(RF v i).length:=by unfold len;rw[d];simp[nms]
  have nx:∀c o,c.rows=nms (RF v (i+1))→R17 v (HQ v (.int ((i+1:Nat):Int)) c (.bool o)):=fun c o h'=>Z6 hv k (i+1) c o (by omega) h'
  have e:kd v i=9→∀m j (a:D) (b:Bool),j+m=len (cl v i 12)→a.rows=nms (RF v i++(List.range j).map fun(q:Nat)=>cl (cl v i 12) q 2)→R17 v (WL v (.int (i:Nat)) (cl v i 12) (.int (len (cl v i 12):Int)) (.int (j:Nat)) a (.bool b)):=by
   intro l m
   induction m with
   |zero=>
    intro j a b s d;have:j=len (cl v i 12):=s;subst this;rw[e9,ifF (by omega),Az (by omega)]
    refine nx a b ?_;rw[RF,RFi,if_neg (by omega),if_pos l];exact d
   |succ m ih=>
    intro j a b s d;have n:len a=(RF v i).length+j:=by unfold len;rw[d];simp[nms]
    rw[e9,ifT (by omega),ifF (by omega),ifT (by omega),ifT (by omega),Az (by omega)]
    refine ih (j+1) _ false (by omega) ?_
    rw[Lx d,List.range_succ,List.map_append,List.append_assoc];rfl
  have f:(len a:Int)<1073741824:=by omega
  have u:(cl v i 1).toInt=kd v i:=rfl;rw[gh,ifT (by omega),ifF (by omega),Az (by omega),u]
  have st:kd v i=7∨kd v i=8∨kd v i=12→R17 v (HQ v (.int ((i+1:Nat):Int)) (ad a (.row [(cl v i 9)])) (.bool false)):=fun w=>nx _ false (by rw[Lx d,RF,RFi,if_pos w])
  by_cases p:kd v i=7
  ·rw[ifT p];exact qT f (st (.inl p))
  ·rw[ifF p];by_cases r:kd v i=8
   ·rw[ifT r];exact qT f (st (.inr (.inl r)))
   ·rw[ifF r];by_cases g:kd v i=12
    ·rw[ifT g];exact qT f (st (.inr (.inr g)))
    ·rw[ifF g];by_cases l:kd v i=9
     ·rw[ifT l];exact e l (len (cl v i 12)) 0 a b (by omega) (by rw[d];simp)
     ·rw[ifF l];exact nx a b (by rw[RF,RFi,if_neg (by omega),if_neg l,List.append_nil];exact d)
theorem Qj{v0 v:D}(hv:FT v):R17 v (Bg v0 v):=by
 rw[zT];exact Z6 hv (len v) 0 Bq true (by omega) rfl
theorem iJ{v k:D}(h:len v≤1000000):G4 v k=.row [.int 1,.int (fdG (fun j=>D.strEq k (cl v j 0)) (len v) 0)]:=by
 rw[yK];refine find (F:=fun j=>OX v k (.int (j:Nat))) (bad:=fun i=>D.strEq k (cl v i 0)) (n:=len v) ?_ ?_
 ·intro j a;refine(?_:OX v k (.int ((j:Nat):Int))=_);rw[fa,ifT (by omega),ifF (by omega),Az (by omega)]
 ·refine(?_:OX v k (.int ((len v:Nat):Int))=_);rw[fa,ifF (by omega)]
theorem TX{l:D}{i:Nat}(n:len l≤1000)(hi:i<len l):∃z:Int,G4 (sb l 0 (i:Nat)) (cl l i 0)=.row [.int 1,.int z]∧(¬z<0→∃j:Nat,j<i∧D.strEq (cl l i 0) (cl l j 0)=true)∧(z<0→∀j:Nat,j<i→D.strEq (cl l i 0) (cl l j 0)=false):=by
 have d:len (sb l 0 (i:Nat))=i:=by rw[Ni (by simp) (by simp;omega)];simp
 refine⟨_,iJ (by rw[d];omega),fun c=>?_,fun c j f=>?_⟩
 ·rw[d]at c;have e:=Dp (p:=fun j=>D.strEq (cl l i 0) (cl (sb l 0 (i:Nat)) j 0)) (k:=i) (i:=0) (by omega)
  have g:=El (p:=fun j=>D.strEq (cl l i 0) (cl (sb l 0 (i:Nat)) j 0)) (k:=i) (i:=0)
  obtain⟨m,h⟩:=ue (show 0≤fdG (fun j=>D.strEq (cl l i 0) (cl (sb l 0 (i:Nat)) j 0)) i 0 by omega)
  rw[h]at e g;have a:m<i:=by omega
  have b:D.strEq (cl l i 0) (cl (sb l 0 (i:Nat)) m 0)=true:=e;rw[O5 (Nat.le_of_lt hi) a]at b;exact⟨m,a,b⟩
 ·rw[d]at c;have:=Iv (p:=fun j=>D.strEq (cl l i 0) (cl (sb l 0 (i:Nat)) j 0)) (k:=i) (i:=0) (j:=j) (by omega) (.inr ⟨c,by omega⟩)
  have b:D.strEq (cl l i 0) (cl (sb l 0 (i:Nat)) j 0)=false:=this;rw[O5 (Nat.le_of_lt hi) f]at b;exact b
def dpM(M k:D):Int:=(cl M (mIx [.str] M (.row [k])) 1).toInt
def Kn(M k:D):Prop:=¬mIx [.str] M (.row [k])<0
def R19(M l d:D):Prop:=∃b n,d=.row [.int 1,.bool b,.int n]∧0≤n∧(∀j:Nat,j<len l→Kn M (cl l j 0)→dpM M (cl l j 0)≤n)∧(n=0∨∃j:Nat,j<len l∧dpM M (cl l j 0)=n)
section
variable {v0 v1 v2 v7 v8:D}{v5 v6:Int}
theorem au{l M N:D}(o:MM M N)(w:len l≤1000):∀k i (b:Bool) (n:Int),i+k=len l→0≤n→(∀j:Nat,j<i→Kn M (cl l j 0)→dpM M (cl l j 0)≤n)→(n=0∨∃j:Nat,j<len l∧dpM M (cl l j 0)=n)→R19 M l (DH l (.int (i:Nat)) v0 v1 v2 (.int v5) (.int v6) v7 v8 M N (.bool b) (.int n))
 |0,i,b,n,h,x,r,f=>by
  have:i=len l:=h;subst this;rw[fE,ifF (by omega)]
  exact⟨_,_,rfl,x,r,f⟩
 |k+1,i,b,n,h,x,r,f=>by
  obtain⟨z,C,s,_⟩:=TX (l:=l) (i:=i) w (by omega)
  have nx:∀t d,n≤d→(Kn M (cl l i 0)→dpM M (cl l i 0)≤d)→(d=n∨dpM M (cl l i 0)=d)→R19 M l (DH l (.int ((i+1:Nat):Int)) v0 v1 v2 (.int v5) (.int v6) v7 v8 M N (.bool t) (.int d)):=fun t d E hi u=>au o w k (i+1) t d (by omega) (by omega) (fun j y g=>by
   rcases hH j i with p|p
   ·have:=r j p g;omega
   ·have:j=i:=by omega
    subst this;exact hi g) (u.elim (fun e=>by rw[e];exact f) fun e=>.inr ⟨i,by omega,e⟩)
  rw[fE,ifT (by omega),ifF (by omega),ifF (by omega),C,Az (by omega)]
  refine qT rfl ?_;refine(?_:R19 M l (cond (decide (z<0)) _ _));by_cases m:z<0
  ·rw[ifT m];by_cases m1:mIx [.str] M (.row [cl l i 0])<0
   ·have m2:=(o.same _).1 m1;have no:∀d,Kn M (cl l i 0)→dpM M (cl l i 0)≤d:=fun d g=>absurd m1 g
    rw[ifT m1];rw[ifF (by omega)]
    exact qc (qT m2 (nx _ _ (by omega) (no _) (.inl rfl))) (nx _ _ (by omega) (no _) (.inl rfl))
   ·obtain⟨a,A⟩:=o.int m1;have m2:¬mIx [.str] N (.row [cl l i 0])<0:=fun h=>m1 ((o.same _).2 h)
    obtain⟨c,F⟩:=o.bool m2;have B:dpM M (cl l i 0)=a:=by unfold dpM;rw[A];rfl
    rw[ifF m1,A,F];refine(?_:R19 M l (cond (decide (n<a)) _ _));by_cases q:n<a
    ·rw[ifT q];have le:Kn M (cl l i 0)→dpM M (cl l i 0)≤a:=fun _=>by omega
     exact qc (qF m2 (nx _ _ (by omega) le (.inr B))) (nx _ _ (by omega) le (.inr B))
    ·rw[ifF q];have le:Kn M (cl l i 0)→dpM M (cl l i 0)≤n:=fun _=>by omega
     exact qc (qF m2 (nx _ _ (by omega) le (.inl rfl))) (nx _ _ (by omega) le (.inl rfl))
  ·rw[ifF m];obtain⟨j,y,G⟩:=s m;refine nx _ _ (by omega) (fun g=>?_) (.inl rfl)
   have e:=Hi o.shape G;have v:Kn M (cl l j 0):=by unfold Kn at g ⊢;rw[←e];exact g
   have:=r j y v;unfold dpM at this ⊢;rw[e];exact this
theorem iP{l M N:D}{b:Bool}(a:MM M N)(c:len l≤1000):R19 M l (Ve v0 v1 v2 M N (.int v5) (.int v6) v7 v8 (.bool b) (.int 0) l):=by
 rw[vX];exact au a c (len l) 0 b 0 (by omega) (by omega) (fun j d=>absurd d (hX _)) (.inl rfl)
end
structure FO(v:D):Prop where
 ft:FT v
 ex:∀i,i<len v→EX v i
def Q20(nm v M N d:D):Prop:=(∃a b c e x y f g,d=.row [.int 1,.int a,.int b,.int c,.int e,x,y,f,g])∨
 (∃(b:Bool) (n:Int),d=.row [.int 2,nm,v,ad M (.row [nm,.int (n+1)]),ad N (.row [nm,.bool b])]∧0≤n∧n<16∧Cc nm=true∧FO v∧¬Kn M nm∧(∀r∈RF v (len v),Kn M r∧dpM M r≤n)∧(n=0∨∃r∈RF v (len v),dpM M r=n))
section
variable {v0 v1 v2 v7 v8 nm:D}{v5 v6:Int}
theorem RX.kn{M N v r:D}{i:Nat}(I:MM M N)(h:RX M N v i)(l:r∈RFi v i):Kn M r:=by
 obtain⟨t,J,h3⟩:=h;unfold RFi at l;split at l
 ·rename_i hk;cases Aeu.1 l;rcases hk with k7|k8|k12
  ·exact t (.inl k7)
  ·exact t (.inr k8)
  ·exact fun hh=>J k12 ((I.same _).1 hh)
 ·split at l
  ·rename_i k9;obtain⟨j,hj,rfl⟩:=List.mem_map.1 l;exact h3 k9 j (List.mem_range.1 hj)
  ·cases l
theorem E8{l:D}{L:List D}(h:l.rows=nms L){j:Nat}(a:j<L.length):cl l j 0=L[j]:=by
 unfold cl;rw[h];simp[nms,F4,a,D.cells]
theorem X5{v M N:D}(w:MM M N)(hv:FT v)(p:Cc nm=true)(x:mIx [.str] M (.row [nm])<0):∀k i (z:Int) (b:Bool),i+k=len v→(∀j,j<i→EX v j∧RX M N v j)→Q20 nm v M N (OQ v (.int (i:Nat)) v0 v1 v2 (.int v5) (.int z) nm M N (.bool b))
 |0,i,z,b,h,f=>by
  have:i=len v:=h;subst this;obtain⟨l,L,d⟩:=Qj (v0:=nm) hv;have few:=hv.few;have O:=Fc hv (len v) (R2 _);have H:len l=(RF v (len v)).length:=by show l.rows.length=_;rw[d];simp[nms]
  obtain⟨m,s,A,B,C,E⟩:=iP (v0:=v0) (v1:=v1) (v2:=v2) (v5:=v5) (v6:=-1) (v7:=nm) (v8:=v) (b:=b) w (l:=l) (by omega)
  have t:Ve v0 v1 v2 M N (.int v5) (.int (-1)) nm v (.bool b) (.int 0) (sl (.row [.int 1,l]) 1)=.row [.int 1,.bool m,.int s]:=A;rw[f6 _ _ _ _ _ _ _ _ _ _ _ rfl rfl,ifF (by omega),L,t]
  refine qT rfl (qT rfl (qT x (qT ((w.same nm).1 x) ?_)));refine(?_:Q20 nm v M N (cond (decide (s<16)) _ _));by_cases n:s<16
  ·rw[ifT n,Ql,Ql];refine .inr ⟨m,s,?_,B,n,p,⟨hv,fun j I=>(f j I).1⟩,fun y=>y x,fun r J=>?_,E.imp id fun⟨q,K,e⟩=>⟨_,Aet (show q<(RF v (len v)).length by omega),by rw[←E8 d (by omega)];exact e⟩⟩
   ·refine(?_:D.row [.int 2,nm,v,ad M (.row [nm,.int (wrap .i64 (s+1))]),ad N (.row [nm,.bool m])]=_);rw[Aq (by omega) (by omega)]
   ·obtain⟨i,hi,F⟩:=br J;have y:=(f i hi).2.kn w F;obtain⟨q,K,o⟩:=sd J;have e:cl l q 0=r:=by rw[E8 d K];exact o
    refine⟨y,?_⟩;have:=C q (by omega) (by rw[e];exact y)
    rw[e]at this;exact this
  ·rw[ifF n];exact .inl ⟨_,_,_,_,_,_,_,_,rfl⟩
 |k+1,i,z,b,h,f=>by
  have few:=hv.few
  have nx:∀(G:Int)(m:Bool),EX v i∧RX M N v i→Q20 nm v M N (OQ v (.int ((i+1:Nat):Int)) v0 v1 v2 (.int v5) (.int G) nm M N (.bool m)):=fun G m o=>X5 w hv p x k (i+1) G m (by omega) fun j I=>by
   rcases hH j i with u|u
   ·exact f j u
   ·have:j=i:=by omega
    subst this;exact o
  have P:DN v i:=fun j q Q R=>(f q R).1.new j Q
  rw[f6 _ _ _ _ _ _ _ _ _ _ _ rfl rfl,ifT (by omega),ifF (by omega),Az (by omega)]
  rcases jq (v0:=v0) (v1:=v1) (v2:=v2) (v3:=M) (v4:=N) (v5:=v5) (v7:=nm) hv (i:=i) (by omega) P with⟨a,c,e,g⟩|⟨g,o⟩
  ·rw[g];exact qT rfl (.inl ⟨_,_,_,_,_,_,_,_,rfl⟩)
  ·rw[g];refine qF (by show ¬(2:Int)=1;decide) (qT rfl (qc (nx _ _ o) (nx _ _ o)))
theorem jX{v M N:D}(c:MM M N)(hv:FT v):Q20 nm v M N (ag v0 v1 v2 M N (.int v5) (.int v6) v7 v8 nm v):=by
 have few:=hv.few;rw[oV,WQ];refine qT rfl ?_;refine(?_:Q20 nm v M N (cond (Cc nm) _ _));cases a:Cc nm with
 |false=>exact .inl ⟨_,_,_,_,_,_,_,_,rfl⟩
 |true=>
 rw[Aer];by_cases b:mIx [.str] M (.row [nm])<0
 ·rw[ifT b];exact qc (.inl ⟨_,_,_,_,_,_,_,_,rfl⟩) (qc (.inl ⟨_,_,_,_,_,_,_,_,rfl⟩) (X5 c hv a b (len v) 0 (-1) true (by omega) fun j d=>absurd d (hX _)))
 ·rw[ifF b];exact .inl ⟨_,_,_,_,_,_,_,_,rfl⟩
end
def nmI(a:D)(i:Nat):D:=cl a i 0
def fsI(a:D)(i:Nat):D:=cl a i 1
def ixN(a:D)(n:Nat)(k:D):Int:=fdG (fun i=>D.strEq (nmI a i) k) n 0
structure GP(ms:D)(n:Nat)(M:D)(dp:Nat→Int):Prop where
 rows:M.rows=(List.range n).map fun i=>.row [nmI ms i,.int (dp i)]
 low:∀i,i<n→1≤dp i∧dp i≤16
 refs:∀i,i<n→∀r∈RF (fsI ms i) (len (fsI ms i)),∃j,j<i∧D.strEq (nmI ms j) r=true∧dp j<dp i
 mx:∀i,i<n→dp i=1∨∃r∈RF (fsI ms i) (len (fsI ms i)),∃j,j<i∧D.strEq (nmI ms j) r=true∧dp i=dp j+1
 dist:∀j k,j<k→k<n→D.strEq (nmI ms j) (nmI ms k)=false
 fo:∀i,i<n→FO (fsI ms i)
 nb:∀i,i<n→Cc (nmI ms i)=true
theorem GP.ln{l M:D}{n:Nat}{r:Nat→Int}(h:GP l n M r):len M=n:=by unfold len;rw[h.rows];simp
theorem GP.shape{I M:D}{n:Nat}{J:Nat→Int}(h:GP I n M J):∀r∈M.rows,∃x l,r=.row (x::l):=fun r t=>by
 rw[h.rows]at t;obtain⟨i,_,rfl⟩:=List.mem_map.1 t;exact⟨_,_,rfl⟩
theorem GP.cell{l M:D}{n:Nat}{r:Nat→Int}(h:GP l n M r){i:Nat}(hi:i<n):cl M i 0=nmI l i∧cl M i 1=.int (r i):=by
 unfold cl;rw[h.rows];simp[F4,hi,D.cells]
theorem GP.ix{l M k:D}{n:Nat}{r:Nat→Int}(h:GP l n M r):mIx [.str] M (.row [k])=ixN l n k:=by
 rw[CN h.shape,h.ln];exact CY fun j _ t=>by rw[(h.cell (by omega)).1]
theorem GP.at{l M k:D}{n:Nat}{t:Nat→Int}(h:GP l n M t)(I:Kn M k):∃j,j<n∧ixN l n k=j∧D.strEq (nmI l j) k=true∧dpM M k=t j:=by
 unfold Kn at I;rw[h.ix]at I;obtain⟨j,r⟩:=ue (show 0≤ixN l n k by omega)
 have J:=Dp (p:=fun i=>D.strEq (nmI l i) k) (k:=n) (i:=0) (by unfold ixN at r;omega)
 have h2:=El (p:=fun i=>D.strEq (nmI l i) k) (k:=n) (i:=0)
 unfold ixN at r;rw[r]at J h2;refine⟨j,by omega,r,J,?_⟩
 unfold dpM;rw[h.ix];unfold ixN;rw[r,(h.cell (by omega)).2];rfl
theorem GP.empty{l:D}{r:Nat→Int}:GP l 0 Al r:=⟨rfl,fun i hi=>absurd hi (hX _),fun i hi=>absurd hi (hX _),fun i hi=>absurd hi (hX _),fun j k _ t=>absurd t (hX _),fun i hi=>absurd hi (hX _),fun i hi=>absurd hi (hX _)⟩
theorem GP.next{t M:D}{n:Nat}{dp:Nat→Int}(h:GP t n M dp){d:Int}(hd:0≤d∧d<16)(al:Cc (nmI t n)=true)(an:FO (fsI t n))(I:¬Kn M (nmI t n))(hr:∀r∈RF (fsI t n) (len (fsI t n)),Kn M r∧dpM M r≤d)(ar:d=0∨∃r∈RF (fsI t n) (len (fsI t n)),dpM M r=d) :
  GP t (n+1) (ad M (.row [nmI t n,.int (d+1)])) fun i=>if i=n then d+1 else dp i:=by
 have av:∀j,j<n→D.strEq (nmI t j) (nmI t n)=false:=fun j J=>by
  unfold Kn at I;rw[h.ix]at I;exact Iv (p:=fun i=>D.strEq (nmI t i) (nmI t n)) (k:=n) (i:=0) (by omega) (.inr ⟨by unfold ixN at I;omega,by omega⟩)
 refine⟨?_,fun i hi=>?_,fun i hi r l=>?_,fun i hi=>?_,fun j k h1 h2=>?_,fun i hi=>?_,fun i hi=>?_⟩
 ·show M.rows++[_]=_;rw[h.rows,List.range_succ,List.map_append]
  congr 1
  ·refine List.map_congr_left fun i hi=>?_
   have:=List.mem_range.1 hi;rw[if_neg (by omega)]
  ·simp
 ·by_cases e:i=n
  ·rw[if_pos e];omega
  ·rw[if_neg e];exact h.low i (by omega)
 ·by_cases e:i=n
  ·subst e;obtain⟨hk,bm⟩:=hr r l;obtain⟨j,J,_,hs,bd⟩:=h.at hk;refine⟨j,J,hs,?_⟩;rw[if_neg (by omega),if_pos rfl];omega
  ·obtain⟨j,J,hs,be⟩:=h.refs i (by omega) r l
   refine⟨j,J,hs,?_⟩;rw[if_neg (by omega),if_neg e];exact be
 ·by_cases e:i=n
  ·subst e;rw[if_pos rfl];rcases ar with q|⟨r,l,q⟩
   ·exact .inl (by omega)
   ·obtain⟨j,J,_,hs,bd⟩:=h.at (hr r l).1;exact .inr ⟨r,l,j,J,hs,by rw[if_neg (by omega)];omega⟩
  ·rw[if_neg e];rcases h.mx i (by omega)with q|⟨r,l,j,J,hs,q⟩
   ·exact .inl q
   ·exact .inr ⟨r,l,j,J,hs,by rw[if_neg (by omega)];exact q⟩
 ·by_cases e:k=n
  ·subst e;exact av j h1
  ·exact h.dist j k h1 (by omega)
 ·by_cases e:i=n
  ·subst e;exact an
  ·exact h.fo i (by omega)
 ·by_cases e:i=n
  ·subst e;exact al
  ·exact h.nb i (by omega)
def Good(a st M N:D)(b:Nat→Int):Prop:=GP a (len a) M b∧MM M N∧Kn M st
def Q21(v2 e st d:D):Prop:=(∃c r,d=.row (.int 1::.int c::r))∨(∃a b c r,d=.row (.int 2::.int a::.int b::.int c::.bool true::r))∨
 (∃x y M N f,d=.row [.int 2,.int 0,.int 0,.int 0,.bool false,v2,e,st,.int (-1),.int (-1),x,y,M,N]∧Good e st M N f)
theorem aS{d v2 st:D}(u:len d≤1000)(hv:∀m:Nat,m<len d→FT (cl d m 1)):∀k i (z:Int) (x y M N:D) (j:Nat→Int),i+k=len d→MM M N→GP d i M j→Q21 v2 d st (Wq d (.int (i:Nat)) v2 st (.int z) x y M N)
 |0,i,z,x,y,M,N,j,h,l,o=>by
  have:i=len d:=h;subst this;rw[fQ _ _ _ _ _ _ _ _ _ rfl,ifF (by omega)]
  by_cases p:mIx [.str] M (.row [st])<0
  ·rw[ifT p];exact .inr (.inl ⟨_,_,_,_,rfl⟩)
  ·rw[ifF p];exact .inr (.inr ⟨_,_,_,_,j,rfl,o,l,p⟩)
 |k+1,i,z,x,y,M,N,j,h,l,o=>by
  rw[fQ _ _ _ _ _ _ _ _ _ rfl,ifT (by omega),ifF (by omega),Az (by omega)]
  rcases jX (v0:=v2) (v1:=d) (v2:=st) (v5:=(i:Nat)) (v6:=-1) (v7:=x) (v8:=y) (nm:=cl d i 0) l (hv i (by omega))with⟨a,b,c,e,A,B,C,E,g⟩|⟨b,n,g,v,q,r,s,f,w,t⟩
  ·rw[g];exact qT rfl (.inr (.inl ⟨_,_,_,_,rfl⟩))
  ·rw[g];refine qF (by show ¬(2:Int)=1;decide) (qT rfl ?_)
   exact aS u hv k (i+1) _ _ _ _ _ _ (by omega) l.put (o.next ⟨v,q⟩ r s f w t)
theorem jt{v0 a st:D}(b:len a≤1000)(hv:∀m:Nat,m<len a→FT (cl a m 1)):Q21 v0 a st (EW v0 a st):=by
 rw[zx,WQ];refine qT rfl (qc ?_ (.inl ⟨_,_,rfl⟩));exact qc (.inl ⟨_,_,rfl⟩) (qc (.inl ⟨_,_,rfl⟩) (aS b hv (len a) 0 (-1) _ _ _ _ (fun _=>0) (by omega) MM.empty GP.empty))
def Q22(v0 e st d:D):Prop:=(∃a b c:Int,d=.row [.int 1,.int a,.int b,.int c,.bool true])∨
 (d=.row [.int 1,.int 0,.int 0,.int 0,.bool false]∧∃x y M N f,EW v0 e st=.row [.int 2,.int 0,.int 0,.int 0,.bool false,v0,e,st,.int (-1),.int (-1),x,y,M,N]∧Good e st M N f)
theorem iR{v0 ms st:D}(d:len ms≤1000)(hv:∀m:Nat,m<len ms→FT (cl ms m 1)):Q22 v0 ms st (Fp v0 ms st):=by
 rw[fN];rcases jt (v0:=v0) (st:=st) d hv with⟨c,r,g⟩|⟨a,b,c,r,g⟩|⟨x,y,M,N,e,g,f⟩
 ·rw[g];exact qT rfl (.inl ⟨_,_,_,rfl⟩)
 ·rw[g];exact qF (by show ¬(2:Int)=1;decide) (qT rfl (.inl ⟨_,_,_,rfl⟩))
 ·rw[g];exact qF (by show ¬(2:Int)=1;decide) (qT rfl (.inr ⟨rfl,x,y,M,N,e,g,f⟩))
end
end Mz
namespace Mz
open Go Go.AE
theorem Cw{x y:Int}(a:y≠0)(b:0≤x):ari .rem .i64 x y=x%y:=by
 have c:(y==0)=false:=by simpa using a
 have e:ari .rem .i64 x y=x.tmod y:=by
  show(match (match y==0 with|true=>none|false=>some (AV.int .i64 (x.tmod y)))with|some (.int _ n)=>n|_=>0)=_
  rw[c]
 rw[e,Int.tmod_eq_emod_of_nonneg b]
theorem IW{x y:Int}(b:0<y)(a:0≤x)(d:x<4611686018427387904):ari .quo .i64 x y=x/y:=by
 have c:(y==0)=false:=by simpa using Int.ne_of_gt b
 have e:ari .quo .i64 x y=wrap .i64 (x.tdiv y):=by
  show(match (match y==0 with|true=>none|false=>some (AV.int .i64 (wrap .i64 (x.tdiv y))))with|some (.int _ n)=>n|_=>0)=_
  rw[c]
 have f:0≤x/y:=Int.ediv_nonneg a (Int.le_of_lt b);have g:x/y≤x:=Int.ediv_le_self _ a;rw[e,Int.tdiv_eq_ediv_of_nonneg a,Aq (by omega) (by omega)]
def stp(k b o:Int):Int:=if k=1∨k=2 then (o+b)%8 else if k=10 then (if b=2 then ((o+1)/2*2)%8 else if b=4 then ((o+3)/4*4)%8 else 0)else 0
def bt(v:D)(i:Int):Int:=(cl v i 2).toInt
def off(v:D):Nat→Int
 |0=>0
 |i+1=>stp (kd v i) (bt v i) (off v i)
theorem Wu{k b o:Int}(h:0≤o∧o≤7):0≤stp k b o∧stp k b o≤7:=by
 unfold stp
 repeat' split
 all_goals omega
theorem LH{v:D}:∀i,0≤off v i∧off v i≤7
 |0=>⟨Ae8 _,(by decide:(0:Int)≤7)⟩
 |i+1=>Wu (LH i)
theorem fC{o b:Int}(h:0≤o∧o≤7)(e:b=2∨b=4∨(8≤b∧b≤512∧ari .rem .i64 b 8=0)):ari .rem .i64 (wrap .i64 ((ari .quo .i64 (wrap .i64 ((wrap .i64 (o+b))-1)) b)*b)) 8=stp 10 b o:=by
 have d:stp 10 b o=if b=2 then ((o+1)/2*2)%8 else if b=4 then ((o+3)/4*4)%8 else 0:=rfl
 have c:0<b:=by omega
 have f:b≤512:=by omega
 rw[Aq (a:=o+b) (by omega) (by omega),Aq (a:=o+b-1) (by omega) (by omega),IW c (by omega) (by omega),d]
 rcases e with rfl|rfl|⟨g,i,b3⟩
 ·rw[Aq (by omega) (by omega),Cw (by decide) (by omega),if_pos rfl,show o+2-1=o+1 by omega]
 ·rw[Aq (by omega) (by omega),Cw (by decide) (by omega),if_neg (by decide),if_pos rfl,show o+4-1=o+3 by omega]
 ·rw[Cw (by decide) (by omega)]at b3
  rw[if_neg (by omega),if_neg (by omega)]
  by_cases j:o=0
  ·have:(o+b-1)/b=0:=((Int.ediv_emod_unique c (q:=0) (r:=o+b-1)).2 ⟨by omega,by omega,by omega⟩).1
   rw[this,Int.zero_mul];rfl
  ·have:(o+b-1)/b=1:=((Int.ediv_emod_unique c (q:=1) (r:=o-1)).2 ⟨by omega,by omega,by omega⟩).1
   rw[this,Int.one_mul,Aq (by omega) (by omega),Cw (by decide) (by omega),b3]
section
variable [Ao]
def R12(d:D):Prop:=(∃x:Int,d=.row [.int 1,.int x])∨d=.row [.int 2]
theorem Rl{v:D}{i q:Int}{n:Nat}{z:Int}(a:FO v)(hi:i=(n:Nat))(c:n<len v)(d:i≠q):HH (.int (off v n)) v (.int i) (.int q) (.int z)=HH (.int (off v (n+1))) v (.int ((n+1:Nat):Int)) (.int q) (.int z):=by
 subst hi;have k12:kd v n=1∨kd v n=2→1≤bt v n∧bt v n≤32:=(a.ex n c).k12;have k10:kd v n=10→bt v n=2∨bt v n=4∨(8≤bt v n∧bt v n≤512∧ari .rem .i64 (bt v n) 8=0):=(a.ex n c).k10;have e:=LH (v:=v) n;have few:=a.ft.few;rw[U7,ifT (by omega),ifF (by omega),ifF d,Az (by omega),off]
 have f:(cl v n 1).toInt=kd v n:=rfl;have b:(cl v n 2).toInt=bt v n:=rfl;rw[f,b];by_cases k1:kd v n=1
 ·have:=k12 (.inl k1);rw[ifT k1,Aq (by omega) (by omega),Cw (by decide) (by omega),show stp (kd v n) (bt v n) (off v n)=(off v n+bt v n)%8 by unfold stp;rw[if_pos (.inl k1)]]
 ·rw[ifF k1];by_cases k2:kd v n=2
  ·have:=k12 (.inr k2);rw[ifT k2,Aq (by omega) (by omega),Cw (by decide) (by omega),show stp (kd v n) (bt v n) (off v n)=(off v n+bt v n)%8 by unfold stp;rw[if_pos (.inr k2)]]
  ·rw[ifF k2];by_cases k3:kd v n=10
   ·have b:=k10 k3;rw[ifT k3,ifF (by omega),fC e b,k3]
   ·rw[ifF k3,show stp (kd v n) (bt v n) (off v n)=0 by unfold stp;rw[if_neg (by omega),if_neg k3]]
theorem X4{v:D}{q z:Int}(a:FO v):∀k n,n+k=len v→R12 (HH (.int (off v n)) v (.int (n:Nat)) (.int q) (.int z))
 |0,n,h=>by
  have:n=len v:=h;subst this;rw[U7,ifF (by omega)]
  exact qc (.inl ⟨_,rfl⟩) (.inr rfl)
 |k+1,n,h=>by
  by_cases b:(n:Int)=q
  ·rw[U7,ifT (by omega),ifF (by omega),ifT b];exact .inl ⟨_,rfl⟩
  ·rw[Rl a rfl (by omega) b];exact X4 a k (n+1) (by omega)
theorem dZ{v:D}{q z:Int}(a:FO v):R12 (DC (.int q) (.int z) v):=by
 rw[eV];exact X4 a (len v) 0 (by omega)
theorem jp{v:D}{q:Nat}{z:Int}(a:FO v)(c:q≤len v):DC (.int (q:Nat)) (.int z) v=.row [.int 1,.int (off v q)]:=by
 rw[eV]
 have b:∀k n,n+k=q→HH (.int (off v n)) v (.int (n:Nat)) (.int (q:Nat)) (.int z)=.row [.int 1,.int (off v q)]:=by
  intro k
  induction k with
  |zero=>
   intro n h;have:n=q:=h;subst this;rw[U7];by_cases d:n<len v
   ·rw[ifT (by omega),ifF (by omega),ifT rfl]
   ·rw[ifF (by omega),ifT (by omega)]
  |succ k ih=>
   intro n h;rw[Rl a rfl (by omega) (by omega)]
   exact ih (n+1) (by omega)
 exact b q 0 (by omega)
theorem Yz{v:D}{i:Nat}{o:Int}(a:FO v)(hi:i≤len v):IsB (Er v (.int (i:Nat)) (.int o)):=by
 have few:=a.ft.few;rw[vF,Ye (by omega)]
 refine(?_:IsB (cond (decide ((i:Int)=len v)) _ (cond _ _ (cond _ (cond _ (cond _ (cond _ (cond _ (cond (decide ((sl (DC (.int 0) (.int 0) v) 0).toInt=1)) _ _) _) (cond _ (cond (decide ((sl (DC (.int (fld v (cl v i 11))) (.int 0) v) 0).toInt=1)) _ _) _)) _) _) _))))
 have t1:∀(q:Int),IsB (cond (decide ((sl (DC (.int q) (.int 0) v) 0).toInt=1)) (cond (decide ((sl (DC (.int q) (.int 0) v) 1).toInt=0)) (.row [.int 1,(.bool false)]) (.row [.int 1,(.bool true)])) (cond (decide ((sl (DC (.int q) (.int 0) v) 0).toInt=2)) (.row [.int 1,(.bool false)]) (.row []))):=fun q=>by
  rcases dZ (q:=q) (z:=0) a with⟨x,g⟩|g
  ·rw[g];exact qT rfl (qc ⟨_,rfl⟩ ⟨_,rfl⟩)
  ·rw[g];exact qF (by show ¬(2:Int)=1;decide) (qT rfl ⟨_,rfl⟩)
 by_cases h:(i:Int)=len v
 ·exact qT h ⟨_,rfl⟩
 ·refine qF h (qF (by omega) (qT (by omega) (qc (qT rfl (qc (qc (t1 _) ⟨_,rfl⟩) (qc (t1 _) ⟨_,rfl⟩))) ?_)))
  have t2:IsB (cond (decide ((sl (.row [.int 1,.int (fld v (cl v i 11))]) 0).toInt=1)) (cond (decide ((sl (.row [.int 1,.int (fld v (cl v i 11))]) 1).toInt<0)) (.row [.int 1,(.bool false)]) (.row [.int 1,(.bool false)])) (.row [])):=qT rfl (qc ⟨_,rfl⟩ ⟨_,rfl⟩);exact qc (qc ⟨_,rfl⟩ t2) (qc (qc ⟨_,rfl⟩ t2) (qc (qc ⟨_,rfl⟩ t2) ⟨_,rfl⟩))
def R26(d:D):Prop:=(∃a b:Int,d=.row [.int 1,.int a,.int b,.bool true])∨d=.row [.int 2,.bool false]
theorem Zt{v nm:D}{a b c z:Int}(d:FO v):∀k n (t:Bool) (o:Int),n+k=len v→0≤o∧o≤7→R26 (EK (.int o) v (.int (n:Nat)) (.int a) (.int b) (.int c) (.bool t) (.int z) nm v)
 |0,n,t,o,h,f=>by
  have:n=len v:=h;subst this;obtain⟨x,g⟩:=Yz (i:=len v) (o:=o) d (R2 _);rw[eS,ifF (by omega),g]
  refine qT rfl ?_;cases x with
  |true=>
   refine(?_:R26 (cond true _ _));rw[Aer];exact qc (.inl ⟨_,_,rfl⟩) (.inl ⟨_,_,rfl⟩)
  |false=>exact .inr rfl
 |k+1,n,t,o,h,f=>by
  have few:=d.ft.few;have k12:kd v n=1∨kd v n=2→1≤bt v n∧bt v n≤32:=(d.ex n (by omega)).k12
  have k10:kd v n=10→bt v n=2∨bt v n=4∨(8≤bt v n∧bt v n≤512∧ari .rem .i64 (bt v n) 8=0):=(d.ex n (by omega)).k10
  obtain⟨x,g⟩:=Yz (i:=n) (o:=o) d (by omega)
  rw[eS,ifT (by omega),ifF (by omega),g,Az (by omega)]
  refine qT rfl ?_;cases x with
  |true=>
   refine(?_:R26 (cond true _ _));rw[Aer];exact qc (.inl ⟨_,_,rfl⟩) (.inl ⟨_,_,rfl⟩)
  |false=>
   refine(?_:R26 (cond false _ (cond (decide (kd v n=1)) (EK _ _ _ _ _ _ (.bool false) _ _ _) (cond (decide (kd v n=2)) (EK _ _ _ _ _ _ (.bool false) _ _ _) (cond (decide (kd v n=10)) (cond (decide (bt v n=0)) _ (EK _ _ _ _ _ _ (.bool false) _ _ _)) (EK _ _ _ _ _ _ (.bool false) _ _ _))))));rw[y0];have nx:∀e,0≤e∧e≤7→R26 (EK (.int e) v (.int ((n+1:Nat):Int)) (.int a) (.int b) (.int c) (.bool false) (.int z) nm v):=fun e j=>Zt d k (n+1) false e (by omega) j
   have l:kd v n=1∨kd v n=2→ari .rem .i64 (wrap .i64 (o+bt v n)) 8=(o+bt v n)%8:=fun m=>by
    have:=k12 m;rw[Aq (by omega) (by omega),Cw (by decide) (by omega)]
   by_cases k1:kd v n=1
   ·refine qT k1 ?_;show R26 (EK (.int (ari .rem .i64 (wrap .i64 (o+bt v n)) 8)) _ _ _ _ _ _ _ _ _);rw[l (.inl k1)];exact nx _ (by omega)
   ·refine qF k1 ?_;by_cases k2:kd v n=2
    ·refine qT k2 ?_;show R26 (EK (.int (ari .rem .i64 (wrap .i64 (o+bt v n)) 8)) _ _ _ _ _ _ _ _ _);rw[l (.inr k2)];exact nx _ (by omega)
    ·refine qF k2 ?_;by_cases k3:kd v n=10
     ·have p:bt v n=2∨bt v n=4∨(8≤bt v n∧bt v n≤512∧ari .rem .i64 (bt v n) 8=0):=k10 k3;refine qT k3 (qF (by omega) ?_)
      show R26 (EK (.int (ari .rem .i64 (wrap .i64 ((ari .quo .i64 (wrap .i64 ((wrap .i64 (o+bt v n))-1)) (bt v n))*(bt v n))) 8)) _ _ _ _ _ _ _ _ _);rw[fC f p];exact nx _ (Wu f)
     ·exact qF k3 (nx 0 (by omega))
theorem Gi{v nm:D}{a b c z:Int}{t:Bool}(d:FO v):R26 (Gt (.int a) (.int b) (.int c) (.bool t) (.int z) nm v v):=by
 rw[sc];exact Zt d (len v) 0 t 0 (by omega) (by omega)
end
end Mz
namespace Mz
open Go Go.AE
section
variable [Ao]
def Q26(d:D):Prop:=∃(a b c:Int) (t:Bool),d=.row [.int 1,.int a,.int b,.int c,.bool t]
theorem lv{F R B:D}{p:Prop}[Decidable p](d:p→R26 F)(hR:p→F=.row [.int 2,.bool false]→Q26 R)(e:Q26 B):Q26 (cond (decide p) (cond (decide ((sl F 0).toInt=1)) (.row [.int 1,sl F 1,sl F 2,.int 12,sl F 3]) (cond (decide ((sl F 0).toInt=2)) R (.row []))) B):=by
 by_cases c:p
 ·rw[ifT c];rcases d c with⟨a,b,g⟩|g
  ·rw[g];exact⟨_,_,_,_,rfl⟩
  ·have:=hR c g;rw[g];exact qF (by show ¬(2:Int)=1;decide) (qT rfl this)
 ·rw[ifF c];exact e
theorem lx{v0 e f:D}{a b c:Int}(i:Fp v0 e f=.row [.int 1,.int a,.int b,.int c,.bool false])(j:len e≤9)(d:∀m:Nat,m<len e→FO (cl e m 1)):Q26 (SC v0 e f):=by
 rw[f9 v0 e f i rfl rfl rfl rfl rfl rfl rfl rfl rfl rfl];refine qT rfl ?_;refine(?_:Q26 (cond false _ _));rw[y0];refine lv (fun h=>Gi (d 0 (by omega))) (fun h g=>?_) ⟨_,_,_,_,rfl⟩
 rw[g];refine lv (fun h=>Gi (d 1 (by omega))) (fun h g=>?_) ⟨_,_,_,_,rfl⟩
 rw[g];refine lv (fun h=>Gi (d 2 (by omega))) (fun h g=>?_) ⟨_,_,_,_,rfl⟩
 rw[g];refine lv (fun h=>Gi (d 3 (by omega))) (fun h g=>?_) ⟨_,_,_,_,rfl⟩
 rw[g];refine lv (fun h=>Gi (d 4 (by omega))) (fun h g=>?_) ⟨_,_,_,_,rfl⟩
 rw[g];refine lv (fun h=>Gi (d 5 (by omega))) (fun h g=>?_) ⟨_,_,_,_,rfl⟩
 rw[g];refine lv (fun h=>Gi (d 6 (by omega))) (fun h g=>?_) ⟨_,_,_,_,rfl⟩
 rw[g];refine lv (fun h=>Gi (d 7 (by omega))) (fun h g=>?_) ⟨_,_,_,_,rfl⟩
 rw[g];refine lv (fun h=>Gi (d 8 (by omega))) (fun h g=>?_) ⟨_,_,_,_,rfl⟩
 rw[g];exact qF (by omega) ⟨_,_,_,_,rfl⟩
def Ok(v0 ms st:D):Prop:=∃x y M N a,EW v0 ms st=.row [.int 2,.int 0,.int 0,.int 0,.bool false,v0,ms,st,.int (-1),.int (-1),x,y,M,N]∧Good ms st M N a
theorem dG{a b st x y M N:D}(h:EW a b st=.row [.int 2,.int 0,.int 0,.int 0,.bool false,a,b,st,.int (-1),.int (-1),x,y,M,N]):Fp a b st=.row [.int 1,.int 0,.int 0,.int 0,.bool false]:=by
 rw[fN,h];exact(ifF (by show ¬(2:Int)=1;decide)).trans (ifT rfl)
theorem kx{v0 v1 v2:D}(d:len v1≤9)(hv:∀m:Nat,m<len v1→FT (cl v1 m 1)):Hd v0 v1 v2=.row [.int 1,.bool false]∨(Hd v0 v1 v2=.row [.int 1,.bool true]∧Ok v0 v1 v2):=by
 rw[rt];rcases iR (v0:=v0) (st:=v2) (ms:=v1) (by omega) hv with⟨a,b,c,g⟩|⟨g,x,y,M,N,f,i,h⟩
 ·have:SC v0 v1 v2=.row [.int 1,.int a,.int b,.int c,.bool true]:=by rw[f9 v0 v1 v2 g rfl rfl rfl rfl rfl rfl rfl rfl rfl rfl];rfl
  rw[this];exact .inl rfl
 ·obtain⟨a,b,c,t,e⟩:=lx g d (fun m j=>h.1.fo m j)
  rw[e];cases t with
  |true=>exact .inl rfl
  |false=>exact .inr ⟨rfl,x,y,M,N,f,i,h⟩
def Sm(a:D)(n:Nat):Prop:=∀m:Nat,m<n→len (cl a m 1)≤16∧∀k:Nat,k<len (cl a m 1)→len (cl (cl a m 1) k 12)≤10∧len (cl (cl a m 1) k 8)≤6
theorem fF{v0 v1 v2:D}(l:len v1≤9):∀k i,i+k=len v1→Sm v1 i→Zd (.int (i:Nat)) v0 v1 v2=.row [.int 1,.bool false]∨(Zd (.int (i:Nat)) v0 v1 v2=.row [.int 1,.bool true]∧Sm v1 (len v1))
 |0,i,h,d=>by
  have:i=len v1:=h;subst this;rw[rx,ifF (by omega)]
  exact .inr ⟨rfl,d⟩
 |k+1,i,h,d=>by
  rw[rx,ifT (by omega),ifF (by omega)]
  by_cases c1:16<(len (cl v1 i 1):Int)
  ·rw[ifT c1];exact .inl rfl
  ·rw[ifF c1];by_cases c2:100<(DU (cl v1 i 0):Int)
   ·rw[ifT c2];exact .inl rfl
   ·rw[ifF c2]
    have a:∀n j,j+n=len (cl v1 i 1)→(∀k:Nat,k<j→len (cl (cl v1 i 1) k 12)≤10∧len (cl (cl v1 i 1) k 8)≤6)→
      Zg (.int (i:Nat)) (.int (j:Nat)) v0 v1 v2 (cl v1 i 0) (cl v1 i 1)=.row [.int 1,.bool false]∨(Zg (.int (i:Nat)) (.int (j:Nat)) v0 v1 v2 (cl v1 i 0) (cl v1 i 1)=.row [.int 1,.bool true]∧Sm v1 (len v1)):=by
     intro n
     induction n with
     |zero=>
      intro j g e;have:j=len (cl v1 i 1):=g;rw[rz,ifF (by omega),Az (by omega)]
      refine fF l k (i+1) (by omega) fun m o=>?_
      rcases hH m i with b|b
      ·exact d m b
      ·have:m=i:=by omega
       subst this;exact⟨by omega,fun q f=>e q (by omega)⟩
     |succ n ih=>
      intro j g e;rw[rz,ifT (by omega),ifF (by omega),Az (by omega)]
      by_cases d1:100<(DU (cl (cl v1 i 1) j 0):Int)
      ·rw[ifT d1];exact .inl rfl
      ·rw[ifF d1];by_cases d2:10<(len (cl (cl v1 i 1) j 12):Int)
       ·rw[ifT d2];exact .inl rfl
       ·rw[ifF d2];by_cases d3:6<(len (cl (cl v1 i 1) j 8):Int)
        ·rw[ifT d3];exact .inl rfl
        ·rw[ifF d3];refine ih (j+1) (by omega) fun q f=>?_
         rcases hH q j with c|c
         ·exact e q c
         ·have:q=j:=by omega
          subst this;exact⟨by omega,by omega⟩
    exact a (len (cl v1 i 1)) 0 (by omega) fun q f=>absurd f (hX _)
theorem rf{v0 v1 v2:D}:aI v0 v1 v2=.row [.int 1,.bool false]∨(aI v0 v1 v2=.row [.int 1,.bool true]∧len v1≤9∧Sm v1 (len v1)):=by
 rw[Adl];by_cases c1:9<(len v1:Int)
 ·rw[ifT c1];exact .inl rfl
 ·rw[ifF c1];by_cases c2:100<(DU v0:Int)
  ·rw[ifT c2];exact .inl rfl
  ·rw[ifF c2];by_cases c3:100<(DU v2:Int)
   ·rw[ifT c3];exact .inl rfl
   ·rw[ifF c3];rcases fF (v0:=v0) (v2:=v2) (v1:=v1) (by omega) (len v1) 0 (by omega) (fun m a=>absurd a (hX _))with g|⟨g,b⟩
    ·exact .inl g
    ·exact .inr ⟨g,by omega,b⟩
structure FK(v:D):Prop where
 i1:∀i:Nat,i<len v→∃n,cl v i 1=.int n
 i2:∀i:Nat,i<len v→∃n,cl v i 2=.int n
 b3:∀i:Nat,i<len v→∃n,cl v i 3=.bool n
 b4:∀i:Nat,i<len v→∃n,cl v i 4=.bool n
 i5:∀i:Nat,i<len v→∃n,cl v i 5=.int n
 i6:∀i:Nat,i<len v→∃n,cl v i 6=.int n
 i7:∀i:Nat,i<len v→∃n,cl v i 7=.int n
 i13:∀i:Nat,i<len v→∃n,cl v i 13=.int n
 i14:∀i:Nat,i<len v→∃n,cl v i 14=.int n
 nil8:∀i:Nat,i<len v→(cl v i 8).isNil=true→len (cl v i 8)=0
 case:∀i:Nat,i<len v→∀j:Nat,j<len (cl v i 12)→(∃n,cl (cl v i 12) j 0=.int n)∧∃n,cl (cl v i 12) j 1=.int n
end
end Mz
set_option maxRecDepth 4000
namespace Mz
open Go Go.AE
section
variable [Ao]
def Sh2(M:D):Prop:=∀r∈M.rows,∃x v,r=.row [x,v]
theorem Sh2.shape{M:D}(h:Sh2 M):∀r∈M.rows,∃x l,r=.row (x::l):=fun r t=>by obtain⟨x,n,e⟩:=h r t;exact⟨x,_,e⟩
theorem Sh2.wd{M:D}(h:Sh2 M):Wd M 2:=fun r l=>by obtain⟨x,n,e⟩:=h r l;exact⟨_,e,rfl⟩
theorem Sh2.empty:Sh2 Al:=fun r l=>by cases l
theorem Sh2.ad{M x v:D}(h:Sh2 M):Sh2 (AE.ad M (.row [x,v])):=fun r l=>(TQ l).elim (h r) fun e=>⟨_,_,e⟩
theorem fT{M k:D}(h:Sh2 M):mIx [.str] M (.row [k])<len M:=by
 rw[CN h.shape];have:=El (p:=fun i=>D.strEq (cl M i 0) k) (k:=len M) (i:=0)
 omega
theorem fq{M k:D}(h:Sh2 M)(a:Kn M k):0≤mIx [.str] M (.row [k])∧D.strEq (cl M (mIx [.str] M (.row [k])) 0) k=true:=by
 unfold Kn at a;refine⟨by omega,?_⟩
 rw[CN h.shape]at a ⊢;have b:0≤fdG (fun i=>D.strEq (cl M i 0) k) (len M) 0:=by omega
 have c:=Dp b;rw[Int.toNat_of_nonneg b]at c;exact c
theorem Kn.congr{M a b:D}(h:Sh2 M)(r:D.strEq a b=true)(l:Kn M a):Kn M b:=by
 unfold Kn at l ⊢;rw[←Hi h.shape r];exact l
def lk(M k:D):Option D:=if mIx [.str] M (.row [k])<0 then none else some (cl M (mIx [.str] M (.row [k])) 1)
theorem Ri{M a b:D}(h:Sh2 M)(c:D.strEq a b=true):lk M a=lk M b:=by unfold lk;rw[Hi h.shape c]
theorem OF{M k:D}:Kn M k↔lk M k≠none:=by
 unfold lk Kn;by_cases h:mIx [.str] M (.row [k])<0
 ·rw[if_pos h];exact⟨fun a=>absurd h a,fun a=>absurd rfl a⟩
 ·rw[if_neg h];exact⟨fun _ a=>(by cases a),fun _=>h⟩
theorem Gc{M k v:D}(h:lk M k=some v):¬mIx [.str] M (.row [k])<0∧cl M (mIx [.str] M (.row [k])) 1=v:=by
 unfold lk at h;by_cases c:mIx [.str] M (.row [k])<0
 ·rw[if_pos c]at h;cases h
 ·rw[if_neg c]at h;cases h;exact⟨c,rfl⟩
theorem LP{M k:D}(h:lk M k=none):mIx [.str] M (.row [k])<0:=by
 unfold lk at h;by_cases c:mIx [.str] M (.row [k])<0
 ·exact c
 ·rw[if_neg c]at h;cases h
theorem HS{M x v k:D}(h:Sh2 M):lk (AE.ad M (.row [x,v])) k=match lk M k with|some u=>some u|none=>if D.strEq x k=true then some v else none:=by
 unfold lk;rw[ME h.shape];have a:=fT (k:=k) h;by_cases c:mIx [.str] M (.row [k])<0
 ·rw[if_pos c,if_neg (show ¬0≤mIx [.str] M (.row [k]) by omega)]
  by_cases s:D.strEq x k=true
  ·rw[if_pos s,if_pos s,if_neg (by omega),GH (by omega),if_pos rfl];rfl
  ·rw[if_neg s,if_neg s,if_pos (by omega)]
 ·rw[if_neg c,if_pos (show 0≤mIx [.str] M (.row [k]) by omega),if_neg c,GH (by omega),if_neg (by omega)]
theorem Sh2.upd{M x:D}{i:Int}(h:Sh2 M):Sh2 (AE.upd M i 1 x):=by
 intro r l;obtain⟨cs,e,t⟩:=MT (x:=x) (i:=i) (j:=1) h.wd r l
 match cs,t with
 |[a,b],_=>exact⟨a,b,e⟩
theorem eB{M x k:D}{i:Int}(h:Sh2 M)(a:0≤i)(b:i<len M):mIx [.str] (AE.upd M i 1 x) (.row [k])=mIx [.str] M (.row [k]):=by
 rw[CN (h.upd (x:=x) (i:=i)).shape,CN h.shape,D8];refine CY fun j _ d=>?_
 rw[HZ h.wd (by decide) a b (by omega),if_neg (fun c=>absurd c.2 (by decide))]
theorem ZN{M x k v:D}(h:Sh2 M)(d:Kn M x):lk (AE.upd M (mIx [.str] M (.row [x])) 1 v) k=if D.strEq x k=true then some v else lk M k:=by
 obtain⟨b,g⟩:=fq h d;have a:=fT (k:=x) h;unfold lk;rw[eB h b a];by_cases s:D.strEq x k=true
 ·rw[if_pos s,←Hi h.shape s,if_neg d,K5 h.wd (by decide) b a]
 ·rw[if_neg s];by_cases c:mIx [.str] M (.row [k])<0
  ·rw[if_pos c,if_pos c]
  ·rw[if_neg c,if_neg c];have f:=fq h (k:=k) c;rw[XC h.wd (by decide) b a (by omega)]
   intro e;rw[e]at f;have i:=D3 (by rw[AQ];exact g) f.2
   exact s i
structure BT(M:D):Prop where
 sh:Sh2 M
 tr:∀k v,lk M k=some v→v=.bool true
theorem BT.ad{M x:D}(h:BT M)(t:¬Kn M x):BT (AE.ad M (.row [x,.bool true]))∧Kn (AE.ad M (.row [x,.bool true])) x∧(∀k,Kn M k→Kn (AE.ad M (.row [x,.bool true])) k)∧∀k,Kn (AE.ad M (.row [x,.bool true])) k→Kn M k∨D.strEq x k=true:=by
 refine⟨⟨h.sh.ad,fun k v l=>?_⟩,?_,fun k l=>?_,fun k l=>?_⟩
 ·rw[HS h.sh]at l;cases r:lk M k with
  |some u=>rw[r]at l;cases l;exact h.tr k _ r
  |none=>
   rw[r]at l;simp only at l;split at l
   ·cases l;rfl
   ·cases l
 ·rw[OF,HS h.sh];cases lk M x with
  |some u=>simp
  |none=>simp[BZ]
 ·rw[OF]at l ⊢;rw[HS h.sh];cases r:lk M k with
  |some u=>simp
  |none=>exact absurd r l
 ·rw[OF,HS h.sh]at l;rw[OF];cases r:lk M k with
  |some u=>exact .inl (by simp)
  |none=>
   rw[r]at l;simp only at l;by_cases s:D.strEq x k=true
   ·exact .inr s
   ·rw[if_neg s]at l;exact absurd rfl l
variable {ms:D}{dp:Nat→Int}{MM0:D}
def rfs(ms:D)(i:Nat):List D:=RF (fsI ms i) (len (fsI ms i))
inductive Rch(ms s:D):D→Prop
 |stop {k:D}:D.strEq s k=true→Rch ms s k
 |next {i:Nat} {r k:D}:i<len ms→Rch ms s (nmI ms i)→r∈rfs ms i→D.strEq r k=true→Rch ms s k
theorem Rch.congr{ms s a b:D}(l:D.strEq a b=true):Rch ms s a→Rch ms s b
 |.stop h=>.stop (D3 h l)
 |.next r t I J=>.next r t I (D3 J l)
structure Gr(ms s:D)(A B:D):Prop where
 bt:BT B
 le:∀k,Kn A k→Kn B k
 up:∀k,Kn B k→Kn A k∨Rch ms s k
 cls:∀j,j<len ms→Kn B (nmI ms j)→¬Kn A (nmI ms j)→∀r∈rfs ms j,Kn B r
theorem Gr.refl{s A:D}(h:BT A):Gr ms s A A:=⟨h,fun _ h=>h,fun _ h=>.inl h,fun _ _ l r=>absurd l r⟩
theorem Gr.trans{s A B C:D}(h:Gr ms s A B)(k:Gr ms s B C):Gr ms s A C:=⟨k.bt,fun x l=>k.le x (h.le x l),fun x l=>(k.up x l).elim (h.up x) .inr,fun j t J h2 r I=>by
 by_cases c:Kn B (nmI ms j)
 ·exact k.le r (h.cls j t c h2 r I)
 ·exact k.cls j t J c r I⟩
def Vs(ms s:D)(V:D→D→D)(n:Nat):Prop:=∀(nm A:D)(i:Nat),ixN ms (len ms) nm=(i:Nat)→i≤n→BT A→Rch ms s nm→∃B,V nm A=.row [.int 1,B]∧Gr ms s A B∧Kn B nm
def Rs(ms s:D)(R:D→D→D)(n:Nat):Prop:=∀(A l:D)(i:Nat),i≤n→i<len ms→l.rows=nms (rfs ms i)→BT A→(∀r∈rfs ms i,Rch ms s r)→∃B,R A l=.row [.int 1,B]∧Gr ms s A B∧∀r∈rfs ms i,Kn B r
theorem Cv{n:Nat}{a b:D}(h:D.strEq a b=true):ixN ms n a=ixN ms n b:=CY fun j _ _=>by rw[AQ,Jw h,AQ]
theorem GF{n:Nat}{M:D}(h:GP ms n M dp){j:Nat}(e:j<n):ixN ms n (nmI ms j)=j:=by
 have a:=Ie (p:=fun i=>D.strEq (nmI ms i) (nmI ms j)) (k:=n) (i:=0) (j:=j) (by omega) (by omega) BZ
 have c:=Dp a.1;obtain⟨m,f⟩:=ue a.1;unfold ixN;rw[f]at a c ⊢;rcases hH m j with b|g
 ·have l:=h.dist m j b e;have d:D.strEq (nmI ms m) (nmI ms j)=true:=c;rw[l]at d;cases d
 ·congr 1;omega
theorem ZK{n:Nat}{k:D}{i:Nat}(h:ixN ms n k=(i:Nat)):i<n∧D.strEq (nmI ms i) k=true:=by
 unfold ixN at h;have a:=Dp (p:=fun i=>D.strEq (nmI ms i) k) (k:=n) (i:=0) (by omega)
 have b:=El (p:=fun i=>D.strEq (nmI ms i) k) (k:=n) (i:=0)
 rw[h]at a b;exact⟨by omega,a⟩
theorem GP.ref{n:Nat}{M:D}(h:GP ms n M dp){i:Nat}(hi:i<n){r:D}(t:r∈rfs ms i):∃j:Nat,j<i∧ixN ms n r=(j:Nat)∧D.strEq (nmI ms j) r=true∧dp j<dp i:=by
 obtain⟨j,I,l,J⟩:=h.refs i hi r t;refine⟨j,I,?_,l,J⟩;rw[←Cv l];exact GF h (by omega)
section
variable (a2 st:D){sR:D}
theorem T2{ms k:D}(h:len ms≤1000000):AM ms k=.row [.int 1,.int (ixN ms (len ms) k)]:=ic h
theorem DE{R:D→D→D→D→D→D}{n:Nat}{M:D}(z:GP ms (len ms) M dp)(O:len ms≤9)(hR:Rs ms sR (fun A l=>R A a2 ms st l) n):Vs ms sR (fun nm A=>VT R nm A a2 ms st) n:=by
 intro nm A i hi p s C;obtain⟨b,t⟩:=ZK hi;show ∃B,VT R nm A a2 ms st=_∧_
 unfold VT;rw[T2 (by omega),hi]
 by_cases a:Kn A nm
 ·have f:=a;rw[OF]at f
  obtain⟨v,hv⟩:∃v,lk A nm=some v:=by cases h:lk A nm with
   |none=>exact absurd h f
   |some v=>exact⟨v,rfl⟩
  obtain⟨F,G⟩:=Gc hv;rw[ifF F,G,s.tr nm v hv];exact⟨A,rfl,.refl s,a⟩
 ·have u:mIx [.str] A (.row [nm])<0:=Int.not_le.1 fun h=>a (by unfold Kn;omega)
  obtain⟨H,I,b3,b4⟩:=s.ad a;obtain⟨l,g,d⟩:=Qj (v0:=cl ms i 0) (z.fo i b).ft;have w:Rch ms sR (nmI ms i):=C.congr (by rw[AQ];exact t)
  obtain⟨B,J,m,x⟩:=hR (ad A (.row [nm,.bool true])) l i p b d H fun r x=>.next b w x BZ
  rw[ifT u,AJ];refine(?_:∃B,cond (decide ((i:Int)<0)) _ (cond (decide ((i:Int)<len ms)) (cond (decide ((sl (Bg (cl ms i 0) (cl ms i 1)) 0).toInt=1)) (cond (decide ((sl (R (ad A (.row [nm,(.bool true)])) a2 ms st (sl (Bg (cl ms i 0) (cl ms i 1)) 1)) 0).toInt=1)) (D.row [D.int 1,(sl (R (ad A (.row [nm,(.bool true)])) a2 ms st (sl (Bg (cl ms i 0) (cl ms i 1)) 1)) 1)]) _) _) _)=_∧_)
  rw[ifF (by omega),ifT (by omega)]
  have e:Bg (cl ms i 0) (cl ms i 1)=.row [.int 1,l]:=g;have y:R (ad A (.row [nm,(.bool true)])) a2 ms st (sl (.row [.int 1,l]) 1)=.row [.int 1,B]:=J;rw[e,AJ,y,AJ];refine⟨B,rfl,⟨m.bt,fun k a=>m.le k (b3 k a),fun k a=>(m.up k a).elim (fun q=>(b4 k q).imp id fun q=>C.congr q) .inr,fun j E K L r o=>?_⟩,m.le nm I⟩
  by_cases c:Kn (ad A (.row [nm,.bool true])) (nmI ms j)
  ·rcases b4 _ c with q|q
   ·exact absurd q L
   ·have:j=i:=by
     have N:=GF z E;rw[←Cv q,hi]at N;omega
    subst this;exact x r o
  ·exact m.cls j E K c r o
theorem DD{V:D→D→D→D→D→D}{R1:D→D→D→D→D→D→D}{n:Nat}{M:D}(t:GP ms (len ms) M dp)(Y:len ms≤9)(hV:Vs ms sR (fun nm A=>V nm A a2 ms st) n)
 (m:∀E i F G H I,R1 E (.int i) F G H I=RT V R1 E i F G H I):Rs ms sR (fun A l=>R1 l (.int 0) A a2 ms st) (n+1):=by
 intro A l i L d c N O;have P:=Fc (t.fo i d).ft _ (R2 _);have few:=(t.fo i d).ft.few;have J:len l=(rfs ms i).length:=by show l.rows.length=_;rw[c];simp[nms]
 have Q:(rfs ms i).length≤160:=by unfold rfs;omega
 have e:∀j (b:j<(rfs ms i).length),cl l j 0=(rfs ms i)[j]:=fun j b=>E8 c b
 have R:∀k q (B:D),q+k=len l→Gr ms sR A B→(∀j (b:j<(rfs ms i).length),j<q→Kn B (rfs ms i)[j])→∃C,R1 l (.int (q:Nat)) B a2 ms st=.row [.int 1,C]∧Gr ms sR A C∧∀r∈rfs ms i,Kn C r:=by
  intro k
  induction k with
  |zero=>
   intro q B h g o;rw[m];unfold RT;rw[ifF (by omega)]
   refine⟨B,rfl,g,fun r S=>?_⟩
   obtain⟨j,b,rfl⟩:=sd S;exact o j b (by omega)
  |succ k ih=>
   intro q B h g o;have u:q<(rfs ms i).length:=by omega
   obtain⟨z,T,v,_⟩:=TX (l:=l) (i:=q) (by omega) (by omega)
   rw[m];unfold RT;rw[ifT (by omega),ifF (by omega),ifF (by omega),T,Az (by omega),AJ]
   refine(?_:∃C,cond (decide (z<0)) _ _=_∧_)
   by_cases f:z<0
   ·rw[ifT f,e q u];obtain⟨j,b,w,_,_⟩:=t.ref d (r:=(rfs ms i)[q]) (Aet u);obtain⟨C,U,s,W⟩:=hV (rfs ms i)[q] B j w (by omega) g.bt (O _ (Aet u))
    have x:V (rfs ms i)[q] B a2 ms st=.row [.int 1,C]:=U;rw[x,AJ];refine ih (q+1) C (by omega) (g.trans s) fun j b y=>?_
    rcases hH j q with a|a
    ·exact s.le _ (o j b a)
    ·have:j=q:=by omega
     subst this;exact W
   ·rw[ifF f];refine ih (q+1) B (by omega) g fun j b y=>?_
    rcases hH j q with a|a
    ·exact o j b a
    ·have:j=q:=by omega
     subst this;obtain⟨p,X,K⟩:=v f;rw[e j b,e p (by omega)]at K
     exact(o p (by omega) X).congr g.bt.sh (by rw[AQ];exact K)
 exact R (len l) 0 A (by omega) (.refl N) fun j _ b=>absurd b (hX _)
theorem Fl{n:Nat}{M:D}(a:GP ms n M dp)(h:0<n):rfs ms 0=[]:=by
 cases b:rfs ms 0 with
 |nil=>rfl
 |cons r t=>
  obtain⟨j,c,_⟩:=a.ref h (r:=r) (by rw[b];exact Ae7)
  exact absurd c (hX _)
theorem Acq{M:D}(n:GP ms (len ms) M dp)(L:len ms≤9):Vs ms sR (fun nm A=>QO nm A a2 ms st) 0:=by
 intro nm A i hi t o u;obtain⟨d,w⟩:=ZK hi;have x:i=0:=by omega
 subst x;show ∃B,QO nm A a2 ms st=_∧_
 rw[wF,T2 (by omega),hi]
 by_cases c:Kn A nm
 ·have e:=c;rw[OF]at e
  obtain⟨v,hv⟩:∃v,lk A nm=some v:=by cases h:lk A nm with
   |none=>exact absurd h e
   |some v=>exact⟨v,rfl⟩
  obtain⟨y,z⟩:=Gc hv;rw[ifF y,z,o.tr nm v hv];exact⟨A,rfl,.refl o,c⟩
 ·have p:mIx [.str] A (.row [nm])<0:=Int.not_le.1 fun h=>c (by unfold Kn;omega)
  obtain⟨C,E,b3,b4⟩:=o.ad c;obtain⟨l,f,a⟩:=Qj (v0:=cl ms ((0:Nat):Int) 0) (n.fo 0 d).ft;have g:RF (fsI ms 0) (len (fsI ms 0))=[]:=Fl n d;have F:len l=0:=by show l.rows.length=0;rw[a];rw[g];rfl
  have G:KW (ad A (.row [nm,(.bool true)])) a2 ms st l=.row [.int 1]:=by rw[uE,wU,ifF (by omega)]
  rw[ifT p,AJ];refine(?_:∃B,cond (decide (((0:Nat):Int)<0)) _ (cond (decide (((0:Nat):Int)<len ms)) (cond (decide ((sl (Bg (cl ms ((0:Nat):Int) 0) (cl ms ((0:Nat):Int) 1)) 0).toInt=1)) (cond (decide ((sl (KW (ad A (.row [nm,(.bool true)])) a2 ms st (sl (Bg (cl ms ((0:Nat):Int) 0) (cl ms ((0:Nat):Int) 1)) 1)) 0).toInt=1)) (D.row [D.int 1,ad A (.row [nm,(.bool true)])]) _) _) _)=_∧_)
  rw[ifF (by omega),ifT (by omega)]
  have b:Bg (cl ms ((0:Nat):Int) 0) (cl ms ((0:Nat):Int) 1)=.row [.int 1,l]:=f;have s:KW (ad A (.row [nm,(.bool true)])) a2 ms st (sl (.row [.int 1,l]) 1)=.row [.int 1]:=G;rw[b,AJ,s,AJ];refine⟨_,rfl,⟨C,b3,fun k c=>(b4 k c).imp id fun q=>u.congr q,fun j H I J r m=>?_⟩,E⟩
  rcases b4 _ I with q|q
  ·exact absurd q J
  ·have:j=0:=by
    have K:=GF n H;rw[←Cv q,hi]at K;omega
   subst this;have:rfs ms 0=[]:=g;rw[this]at m;cases m
theorem rl1{M:D}(a:GP ms (len ms) M dp)(b:len ms≤9):Rs ms sR (fun A l=>NZ A a2 ms st l) 1:=by
 have h:=DD (sR:=sR) (R1:=RN) (V:=QO) a2 st a b (Acq a2 st a b) (fun c i d f j k=>mu c i d f j k)
 intro A l i m n o p q;obtain⟨B,g⟩:=h A l i m n o p q;have e:NZ A a2 ms st l=RN l (.int 0) A a2 ms st:=pV A a2 ms st l;exact⟨B,e.trans g.1,g.2⟩
theorem Adk{M:D}(a:GP ms (len ms) M dp)(b:len ms≤9):Vs ms sR (fun nm A=>Sw nm A a2 ms st) 1:=by
 have h:=DE (sR:=sR) (R:=NZ) a2 st a b (rl1 a2 st a b);intro nm A i c d f j;obtain⟨B,g⟩:=h nm A i c d f j;have e:Sw nm A a2 ms st=VT NZ nm A a2 ms st:=mo nm A a2 ms st;exact⟨B,e.trans g.1,g.2⟩
theorem rl2{M:D}(a:GP ms (len ms) M dp)(b:len ms≤9):Rs ms sR (fun A l=>O3 A a2 ms st l) 2:=by
 have h:=DD (sR:=sR) (R1:=Sl) (V:=Sw) a2 st a b (Adk a2 st a b) (fun c i d f j k=>wS c i d f j k)
 intro A l i m n o p q;obtain⟨B,g⟩:=h A l i m n o p q;have e:O3 A a2 ms st l=Sl l (.int 0) A a2 ms st:=mM A a2 ms st l;exact⟨B,e.trans g.1,g.2⟩
theorem Acz{M:D}(a:GP ms (len ms) M dp)(b:len ms≤9):Vs ms sR (fun nm A=>RC nm A a2 ms st) 2:=by
 have h:=DE (sR:=sR) (R:=O3) a2 st a b (rl2 a2 st a b);intro nm A i c d f j;obtain⟨B,g⟩:=h nm A i c d f j;have e:RC nm A a2 ms st=VT O3 nm A a2 ms st:=yS nm A a2 ms st;exact⟨B,e.trans g.1,g.2⟩
theorem rl3{M:D}(a:GP ms (len ms) M dp)(b:len ms≤9):Rs ms sR (fun A l=>Pc A a2 ms st l) 3:=by
 have h:=DD (sR:=sR) (R1:=RA) (V:=RC) a2 st a b (Acz a2 st a b) (fun c i d f j k=>pW c i d f j k)
 intro A l i m n o p q;obtain⟨B,g⟩:=h A l i m n o p q;have e:Pc A a2 ms st l=RA l (.int 0) A a2 ms st:=uc A a2 ms st l;exact⟨B,e.trans g.1,g.2⟩
theorem Acy{M:D}(a:GP ms (len ms) M dp)(b:len ms≤9):Vs ms sR (fun nm A=>Sf nm A a2 ms st) 3:=by
 have h:=DE (sR:=sR) (R:=Pc) a2 st a b (rl3 a2 st a b);intro nm A i c d f j;obtain⟨B,g⟩:=h nm A i c d f j;have e:Sf nm A a2 ms st=VT Pc nm A a2 ms st:=rR nm A a2 ms st;exact⟨B,e.trans g.1,g.2⟩
theorem rl4{M:D}(a:GP ms (len ms) M dp)(b:len ms≤9):Rs ms sR (fun A l=>O8 A a2 ms st l) 4:=by
 have h:=DD (sR:=sR) (R1:=Re) (V:=Sf) a2 st a b (Acy a2 st a b) (fun c i d f j k=>xZ c i d f j k)
 intro A l i m n o p q;obtain⟨B,g⟩:=h A l i m n o p q;have e:O8 A a2 ms st l=Re l (.int 0) A a2 ms st:=py A a2 ms st l;exact⟨B,e.trans g.1,g.2⟩
theorem Acl{M:D}(a:GP ms (len ms) M dp)(b:len ms≤9):Vs ms sR (fun nm A=>R4 nm A a2 ms st) 4:=by
 have h:=DE (sR:=sR) (R:=O8) a2 st a b (rl4 a2 st a b);intro nm A i c d f j;obtain⟨B,g⟩:=h nm A i c d f j;have e:R4 nm A a2 ms st=VT O8 nm A a2 ms st:=tW nm A a2 ms st;exact⟨B,e.trans g.1,g.2⟩
theorem rl5{M:D}(a:GP ms (len ms) M dp)(b:len ms≤9):Rs ms sR (fun A l=>ON A a2 ms st l) 5:=by
 have h:=DD (sR:=sR) (R1:=SD) (V:=R4) a2 st a b (Acl a2 st a b) (fun c i d f j k=>sQ c i d f j k)
 intro A l i m n o p q;obtain⟨B,g⟩:=h A l i m n o p q;have e:ON A a2 ms st l=SD l (.int 0) A a2 ms st:=md A a2 ms st l;exact⟨B,e.trans g.1,g.2⟩
theorem Aei{M:D}(a:GP ms (len ms) M dp)(b:len ms≤9):Vs ms sR (fun nm A=>Ry nm A a2 ms st) 5:=by
 have h:=DE (sR:=sR) (R:=ON) a2 st a b (rl5 a2 st a b);intro nm A i c d f j;obtain⟨B,g⟩:=h nm A i c d f j;have e:Ry nm A a2 ms st=VT ON nm A a2 ms st:=zq nm A a2 ms st;exact⟨B,e.trans g.1,g.2⟩
theorem rl6{M:D}(a:GP ms (len ms) M dp)(b:len ms≤9):Rs ms sR (fun A l=>O2 A a2 ms st l) 6:=by
 have h:=DD (sR:=sR) (R1:=Sr) (V:=Ry) a2 st a b (Aei a2 st a b) (fun c i d f j k=>oz c i d f j k)
 intro A l i m n o p q;obtain⟨B,g⟩:=h A l i m n o p q;have e:O2 A a2 ms st l=Sr l (.int 0) A a2 ms st:=zZ A a2 ms st l;exact⟨B,e.trans g.1,g.2⟩
theorem Acw{M:D}(a:GP ms (len ms) M dp)(b:len ms≤9):Vs ms sR (fun nm A=>Ro nm A a2 ms st) 6:=by
 have h:=DE (sR:=sR) (R:=O2) a2 st a b (rl6 a2 st a b);intro nm A i c d f j;obtain⟨B,g⟩:=h nm A i c d f j;have e:Ro nm A a2 ms st=VT O2 nm A a2 ms st:=pY nm A a2 ms st;exact⟨B,e.trans g.1,g.2⟩
theorem rl7{M:D}(a:GP ms (len ms) M dp)(b:len ms≤9):Rs ms sR (fun A l=>Of A a2 ms st l) 7:=by
 have h:=DD (sR:=sR) (R1:=RI) (V:=Ro) a2 st a b (Acw a2 st a b) (fun c i d f j k=>yF c i d f j k)
 intro A l i m n o p q;obtain⟨B,g⟩:=h A l i m n o p q;have e:Of A a2 ms st l=RI l (.int 0) A a2 ms st:=mK A a2 ms st l;exact⟨B,e.trans g.1,g.2⟩
theorem Aeh{M:D}(a:GP ms (len ms) M dp)(b:len ms≤9):Vs ms sR (fun nm A=>QV nm A a2 ms st) 7:=by
 have h:=DE (sR:=sR) (R:=Of) a2 st a b (rl7 a2 st a b);intro nm A i c d f j;obtain⟨B,g⟩:=h nm A i c d f j;have e:QV nm A a2 ms st=VT Of nm A a2 ms st:=yj nm A a2 ms st;exact⟨B,e.trans g.1,g.2⟩
theorem rl8{M:D}(a:GP ms (len ms) M dp)(b:len ms≤9):Rs ms sR (fun A l=>NW A a2 ms st l) 8:=by
 have h:=DD (sR:=sR) (R1:=Rm) (V:=QV) a2 st a b (Aeh a2 st a b) (fun c i d f j k=>yC c i d f j k)
 intro A l i m n o p q;obtain⟨B,g⟩:=h A l i m n o p q;have e:NW A a2 ms st l=Rm l (.int 0) A a2 ms st:=qw A a2 ms st l;exact⟨B,e.trans g.1,g.2⟩
theorem Aea{M:D}(a:GP ms (len ms) M dp)(b:len ms≤9):Vs ms sR (fun nm A=>Ll nm A a2 ms st) 8:=by
 have h:=DE (sR:=sR) (R:=NW) a2 st a b (rl8 a2 st a b);intro nm A i c d f j;obtain⟨B,g⟩:=h nm A i c d f j;have e:Ll nm A a2 ms st=VT NW nm A a2 ms st:=nj nm A a2 ms st;exact⟨B,e.trans g.1,g.2⟩
theorem jb{M:D}(f:GP ms (len ms) M dp)(g:len ms≤9){a b:D}(l:Kn M st):∃B,Si a2 ms st (ad Al (.row [st])) (.bool false)=.row [.int 1,B]∧BT B∧(∀k,Kn B k→Rch ms st k)∧Kn B st∧∀j,j<len ms→Kn B (nmI ms j)→∀r∈rfs ms j,Kn B r:=by
 obtain⟨i,hi,c,m,_⟩:=f.at l;have n:BT Al:=⟨Sh2.empty,fun k v h=>by cases h⟩
 obtain⟨B,o,d,p⟩:=Aea a2 st (sR:=st) f g st Al i c (by omega) n (.stop BZ)
 have e:Ll st Al a2 ms st=.row [.int 1,B]:=o;refine⟨B,?_,d.bt,fun k h=>(d.up k h).elim (fun q=>absurd (show mIx [.str] Al (.row [k])<0 from by show(-1:Int)<0;decide) q) id,p,fun j s t r u=>d.cls j s t (fun h=>absurd (show mIx [.str] Al (.row [nmI ms j])<0 from by show(-1:Int)<0;decide) h) r u⟩
 rw[Abj,gj,ifT (by show(0:Int)<1;decide),ifF (by decide)]
 refine(?_:cond (decide ((sl (Ll st Al a2 ms st) 0).toInt=1)) (VA (ad Al (.row [st])) (.bool false) (.int (wrap .i64 (0+1))) (sl (Ll st Al a2 ms st) 1) a2 ms st) _=_);rw[e,AJ,show wrap .i64 (0+1)=1 from rfl,gj,ifF (by show ¬(1:Int)<1;decide)]
 rfl
end
end
end Mz
namespace Mz
open Go Go.AE
section
variable [Ao]
structure TD(ms:D):Prop where
 wd:Wd ms 2
 nl:ms.isNil=true→len ms=0
 fw:∀m:Nat,m<len ms→Wd (cl ms m 1) 15
 fn:∀m:Nat,m<len ms→(cl ms m 1).isNil=true→len (cl ms m 1)=0
 n12:∀m:Nat,m<len ms→∀i:Nat,i<len (cl ms m 1)→(cl (cl ms m 1) i 12).isNil=true→len (cl (cl ms m 1) i 12)=0
structure CP(v w:D):Prop where
 ln:len w=len v
 wd:Wd w 15
 o:∀i:Nat,i<len v→∀c,c≠8→c≠12→cl w i c=cl v i c
 r8:∀i:Nat,i<len v→(cl w i 8).rows=(cl v i 8).rows
 r12:∀i:Nat,i<len v→(cl w i 12).rows=(cl v i 12).rows
theorem CP.set{v w x8 x12:D}{i:Nat}(h:CP v w)(hi:i<len v)(I:x8.rows=(cl v i 8).rows)(t:x12.rows=(cl v i 12).rows) :
  CP v (upd (upd w i 8 x8) i 12 x12)∧∀j:Nat,j<len v→j≠i→∀c,cl (upd (upd w i 8 x8) i 12 x12) j c=cl w j c:=by
 have J:=h.ln;have w1:Wd (upd w i 8 x8) 15:=MT h.wd
 have key:∀j:Nat,∀c,cl (upd (upd w i 8 x8) i 12 x12) j c=if (j:Int)=i∧c=12 then x12 else if (j:Int)=i∧c=8 then x8 else cl w j c:=fun j c=>by
  rw[HZ w1 (by decide) (by omega) (by rw[D8];omega) (by omega),HZ h.wd (by decide) (by omega) (by omega) (by omega)]
 refine⟨⟨by rw[D8,D8];exact J,MT w1,fun j l c c8 c12=>?_,fun j l=>?_,fun j l=>?_⟩,fun j l r c=>?_⟩
 ·rw[key,if_neg (fun e=>c12 e.2),if_neg (fun e=>c8 e.2)];exact h.o j l c c8 c12
 ·rw[key,if_neg (fun e=>absurd e.2 (by decide))]
  by_cases e:(j:Int)=i
  ·have:j=i:=by omega
   subst this;rw[if_pos ⟨rfl,rfl⟩];exact I
  ·rw[if_neg (fun q=>e q.1)];exact h.r8 j l
 ·rw[key];by_cases e:(j:Int)=i
  ·have:j=i:=by omega
   subst this;rw[if_pos ⟨rfl,rfl⟩];exact t
  ·rw[if_neg (fun q=>e q.1),if_neg (fun q=>e q.1)];exact h.r12 j l
 ·rw[key,if_neg (fun q=>r (by omega)),if_neg (fun q=>r (by omega))]
theorem Ms{d:D}(h:len d=0):d.rows=[]:=la h
theorem LG{c:D}:(ni (ct Al c) false).rows=c.rows:=by simp[ni,ct,Al,D.rows]
theorem Ww{v v4 v5 v7:D}{mi N:Int}{b6 b9:Bool}(hv:FT v)(g:∀i:Nat,i<len v→(cl v i 12).isNil=true→len (cl v i 12)=0):∀k i w,i+k=len v→CP v w→(∀j:Nat,i≤j→j<len v→∀c,cl w j c=cl v j c)→
  ∃d,Lm (.int mi) (.int N) (.int (len v:Int)) (.int (i:Nat)) v4 v5 (.bool b6) v7 w (.bool b9)=JB (.int N) (.int (wrap .i64 (mi+1))) v4 (upd v5 mi 1 (ni d b9)) (.bool b6) v7∧CP v d
 |0,i,w,h,e,f=>by
  have:i=len v:=h;subst this;rw[fh,ifF (by omega)]
  exact⟨w,rfl,e⟩
 |k+1,i,w,h,e,f=>by
  have few:=hv.few;have r:=hv.len8 i (by omega)
  have o:=hv.len12 i (by omega)
  have s:=e.ln
  have nx:∀x8 x12:D,x8.rows=(cl v i 8).rows→x12.rows=(cl v i 12).rows→∃d,Lm (.int mi) (.int N) (.int (len v:Int)) (.int ((i+1:Nat):Int)) v4 v5 (.bool b6) v7 (upd (upd w i 8 x8) i 12 x12) (.bool b9)=JB (.int N) (.int (wrap .i64 (mi+1))) v4 (upd v5 mi 1 (ni d b9)) (.bool b6) v7∧CP v d:=fun x8 x12 l a=>by
   obtain⟨p,q⟩:=e.set (i:=i) (by omega) l a
   exact Ww hv g k (i+1) _ (by omega) p fun j t m c=>by rw[q j m (by omega)];exact f j (by omega) m c
  rw[fh,ifT (by omega),ifF (by omega),ifT (by omega),Az (by omega),f i (by omega) (by omega),f i (by omega) (by omega)]
  cases l:(cl v i 8).isNil with
  |true=>
   have n:=Ms (hv.nil8 i (by omega) l)
   rw[Aer];cases a:(cl v i 12).isNil with
   |true=>
    have b:=Ms (g i (by omega) a)
    rw[Aer];exact nx _ _ (by rw[n];rfl) (by rw[b];rfl)
   |false=>rw[y0,ifT (by omega)];exact nx _ _ (by rw[n];rfl) LG
  |false=>
   rw[y0,ifT (by omega)]
   cases a:(cl v i 12).isNil with
   |true=>
    have b:=Ms (g i (by omega) a)
    rw[Aer];exact nx _ _ LG (by rw[b];rfl)
   |false=>rw[y0,ifT (by omega)];exact nx _ _ LG LG
structure CM(ms q:D):Prop where
 ln:len q=len ms
 nm:∀i:Nat,i<len ms→cl q i 0=cl ms i 0
 fs:∀i:Nat,i<len ms→CP (cl ms i 1) (cl q i 1)
theorem CP.ni{v w:D}{b:Bool}(h:CP v w):CP v (AE.ni w b):=⟨h.ln,wa h.wd,h.o,h.r8,h.r12⟩
theorem Vo{d a st:D}{b:Bool}(n:TD d)(y:len d≤9)(hv:∀m:Nat,m<len d→FT (cl d m 1)):∀k i (q:D),i+k=len d→len q=len d→Wd q 2→(∀j:Nat,j<len d→cl q j 0=cl d j 0)→
  (∀j:Nat,j<i→j<len d→CP (cl d j 1) (cl q j 1))→(∀j:Nat,i≤j→j<len d→cl q j 1=cl d j 1)→∃g p,JB (.int (len d:Int)) (.int (i:Nat)) a q (.bool b) st=.row [.int 1,a,g,.bool p,st]∧CM d g
 |0,i,q,h,r,o,s,t,u=>by
  have:i=len d:=h;subst this;rw[Y5,ifF (by omega)]
  exact⟨q,b,rfl,r,s,fun j f=>t j f f⟩
 |k+1,i,q,h,r,o,s,t,u=>by
  have hi:i<len d:=by omega
  have few:=(hv i hi).few
  have nx:∀x,CP (cl d i 1) x→∃g p,JB (.int (len d:Int)) (.int ((i+1:Nat):Int)) a (upd q i 1 x) (.bool b) st=.row [.int 1,a,g,.bool p,st]∧CM d g:=fun x z=>by
   have key:∀j:Nat,∀c,cl (upd q i 1 x) j c=if (j:Int)=i∧c=1 then x else cl q j c:=fun j c=>HZ o (by decide) (by omega) (by omega) (by omega)
   refine Vo n y hv k (i+1) _ (by omega) (by rw[D8];exact r) (MT o) (fun j f=>?_) (fun j A v=>?_) (fun j A v=>?_)
   ·rw[key,if_neg (fun e=>absurd e.2 (by decide))];exact s j f
   ·rw[key];by_cases e:(j:Int)=i
    ·have:j=i:=by omega
     subst this;rw[if_pos ⟨rfl,rfl⟩];exact z
    ·rw[if_neg (fun q=>e q.1)];exact t j (by omega) v
   ·rw[key,if_neg (fun e=>by omega)];exact u j (by omega) v
  rw[Y5,ifT (by omega),ifF (by omega),ifT (by omega),u i (R2 _) hi]
  cases l:(cl d i 1).isNil with
  |true=>
   have B:=n.fn i hi l;have key:cl (upd q i 1 Bq) i 1=Bq:=K5 o (by decide) (by omega) (by omega)
   rw[Aer,key,G1,uz,ifF (by decide),Az (by omega)]
   exact nx Bq ⟨by rw[G1,B],bB,fun j f=>by omega,fun j f=>by omega,fun j f=>by omega⟩
  |false=>
   rw[y0,ifT (by omega)]
   obtain⟨E,w,C⟩:=Ww (v4:=a) (v5:=q) (v7:=st) (mi:=(i:Nat)) (N:=len d) (b6:=b) (b9:=false) (hv i hi) (n.n12 i hi) (len (cl d i 1)) 0 (ct Al (cl d i 1)) (by omega) ⟨DY,fY OA (n.fw i hi),fun j f c _ _=>FG,fun j f=>by rw[FG],fun j f=>by rw[FG]⟩ (fun j _ _ c=>FG)
   rw[show(0:Int)=((0:Nat):Int)from rfl,w,Az (by omega)]
   exact nx _ C.ni
theorem iE{a c st:D}(e:TD c)(g:len c≤9)(hv:∀m:Nat,m<len c→FT (cl c m 1)):∃q b,GL a c st=.row [.int 1,a,q,.bool b,st]∧CM c q:=by
 rw[tF];cases d:c.isNil with
 |true=>
  have h:=e.nl d;rw[Aer,Y5,ifF (by decide)]
  exact⟨Bq,true,rfl,by rw[G1,h],fun j f=>by omega,fun j f=>by omega⟩
 |false=>
  rw[y0,ifT (by omega)]
  exact Vo e g hv (len c) 0 (ct Al c) (by omega) DY (fY OA e.wd) (fun j _=>FG) (fun j f=>absurd f (hX _)) (fun j _ _=>FG)
end
end Mz
namespace Mz
open Go Go.AE
section
variable [Ao]
def tU(t k:D):Int:=fdG (fun j=>D.strEq (cl t j 0) k) (len t) 0
def fU(v k:D)(i:Nat):Bool:=(decide (kd v i=9)&&D.strEq (cl v i 10) k) || !decide (tU (cl v i 8) k<0)
def us(v k:D):Bool:=!decide (fdG (fun i=>fU v k i) (len v) 0<0)
theorem gK{t k:D}(h:len t≤1000000):NP t k=.row [.int 1,.int (tU t k)]:=by
 rw[uT];refine find (F:=fun j=>On t (.int (j:Nat)) k) (bad:=fun i=>D.strEq (cl t i 0) k) (n:=len t) ?_ ?_
 ·intro j a;refine(?_:On t (.int ((j:Nat):Int)) k=_);rw[f8,ifT (by omega),ifF (by omega),Az (by omega)]
 ·refine(?_:On t (.int ((len t:Nat):Int)) k=_);rw[f8,ifF (by omega)]
theorem kb{v k:D}(few:len v≤16)(b:∀j:Nat,j<len v→len (cl v j 8)≤6):Wg v k=.row [.int 1,.int (fdG (fun i=>fU v k i) (len v) 0)]:=by
 rw[qW];refine find (F:=fun j=>I8 v (.int (j:Nat)) k) (bad:=fun i=>fU v k i) (n:=len v) ?_ ?_
 ·intro j c;have e:=b j c;refine(?_:I8 v (.int ((j:Nat):Int)) k=_);have d:(cl v j 1).toInt=kd v j:=rfl;rw[f5,ifT (by omega),ifF (by omega),Az (by omega),gK (by omega),d]
  unfold fU
  have tail:cond (decide ((sl (.row [.int 1,.int (tU (cl v j 8) k)]) 0).toInt=1)) (cond (decide ((sl (.row [.int 1,.int (tU (cl v j 8) k)]) 1).toInt<0)) (I8 v (.int ((j+1:Nat):Int)) k) (.row [.int 1,.int ((j:Nat):Int)])) (.row [])=cond (!decide (tU (cl v j 8) k<0)) (.row [.int 1,.int ((j:Nat):Int)]) (I8 v (.int ((j+1:Nat):Int)) k):=by
   rw[AJ];refine(?_:cond (decide (tU (cl v j 8) k<0)) _ _=_);cases decide (tU (cl v j 8) k<0)<;>rfl
  by_cases a:kd v j=9
  ·rw[ifT a,pv a];cases f:D.strEq (cl v j 10) k with
   |true=>rfl
   |false=>rw[y0,tail];rfl
  ·rw[ifF a,lp a,tail];rfl
 ·refine(?_:I8 v (.int ((len v:Nat):Int)) k=_);rw[f5,ifF (by omega)]
theorem gS{a v k:D}(few:len v≤16)(b:∀j:Nat,j<len v→len (cl v j 8)≤6):JD a v k=.row [.int 1,.bool (us v k)]:=by
 rw[sD,kb few b,AJ];rfl
theorem ZY{v k nm:D}{i:Nat}(hv:FT v)(hi:i<len v){x5 x14 x15 x16 x17:D}{x6 x7 x10 x11 x12 x18 x19:Int}{x8 x9:Bool}:∀n j,j+n=len (cl v i 8)→NT k (.int (i:Nat)) (.int (j:Nat)) nm v x5 (.int x6) (.int x7) (.bool x8) (.bool x9) (.int x10) (.int x11) (.int x12) (cl v i 8) x14 x15 x16 x17 (.int x18) (.int x19) =
  cond (!decide (fdG (fun j=>D.strEq (cl (cl v i 8) j 0) k) n j<0)) (.row [.int 1,.bool true]) (SF k (.int ((i+1:Nat):Int)) nm v)
 |0,j,h=>by
  have few:=hv.few;rw[eN,ifF (by omega),Az (by omega)];rfl
 |n+1,j,h=>by
  have b:=hv.len8 i hi;rw[eN,ifT (by omega),ifF (by omega),Az (by omega),ZY hv hi n (j+1) (by omega)]
  cases a:D.strEq (cl (cl v i 8) j 0) k with
  |true=>
   have:fdG (fun j=>D.strEq (cl (cl v i 8) j 0) k) (n+1) j=j:=by rw[fdG];simp[a]
   rw[this,lp (show ¬((j:Nat):Int)<0 by omega)];rfl
  |false=>
   have:fdG (fun j=>D.strEq (cl (cl v i 8) j 0) k) (n+1) j=fdG (fun j=>D.strEq (cl (cl v i 8) j 0) k) n (j+1):=by rw[fdG];simp[a]
   rw[this];rfl
theorem Yt{v k nm:D}(hv:FT v):∀n i,i+n=len v→SF k (.int (i:Nat)) nm v=.row [.int 1,.bool (!decide (fdG (fun i=>fU v k i) n i<0))]
 |0,i,h=>by
  rw[fe,ifF (by omega)];rfl
 |n+1,i,h=>by
  have hi:i<len v:=by omega
  have few:=hv.few;obtain⟨b,o⟩:=hv.i1 i hi;obtain⟨p,x⟩:=hv.i2 i hi;obtain⟨q,y⟩:=hv.b3 i hi;obtain⟨r,z⟩:=hv.b4 i hi;obtain⟨s,A⟩:=hv.i5 i hi;obtain⟨t,B⟩:=hv.i6 i hi;obtain⟨u,C⟩:=hv.i7 i hi;obtain⟨c,j⟩:=hv.i13 i hi;obtain⟨d,l⟩:=hv.i14 i hi;have m:kd v i=b:=by unfold kd;rw[o];rfl
  have rest:=ZY (k:=k) (nm:=nm) hv hi (x5:=cl v i 0) (x14:=cl v i 9) (x15:=cl v i 10) (x16:=cl v i 11) (x17:=cl v i 12) (x6:=b) (x7:=p) (x8:=q) (x9:=r) (x10:=s) (x11:=t) (x12:=u) (x18:=c) (x19:=d) (len (cl v i 8)) 0 (by omega)
  rw[Yt hv n (i+1) (by omega)]at rest
  rw[fe,ifT (by omega),ifF (by omega),o,x,y,z,A,B,C,j,l]
  have a:NT k (.int ((i:Nat):Int)) (.int 0) nm v (cl v i 0) (.int b) (.int p) (.bool q) (.bool r) (.int s) (.int t) (.int u) (cl v i 8) (cl v i 9) (cl v i 10) (cl v i 11) (cl v i 12) (.int c) (.int d)=cond (!decide (tU (cl v i 8) k<0)) (.row [.int 1,.bool true]) (.row [.int 1,.bool (!decide (fdG (fun i=>fU v k i) n (i+1)<0))]):=rest
  rw[a];have e:fU v k i=((decide (b=9)&&D.strEq (cl v i 10) k) || !decide (tU (cl v i 8) k<0)):=by unfold fU;rw[m]
  have yes:fU v k i=true→fdG (fun i=>fU v k i) (n+1) i=i:=fun h=>by rw[fdG];simp[h]
  have no:fU v k i=false→fdG (fun i=>fU v k i) (n+1) i=fdG (fun i=>fU v k i) n (i+1):=fun h=>by rw[fdG];simp[h]
  refine(?_:cond (decide (b=9)) (cond (D.strEq (cl v i 10) k) _ _) _=_);by_cases g:b=9
  ·rw[ifT g];cases w:D.strEq (cl v i 10) k with
   |true=>
    rw[Aer,yes (by rw[e,w,pv g];rfl),lp (show ¬((i:Nat):Int)<0 by omega)];rfl
   |false=>
    rw[y0];cases f:decide (tU (cl v i 8) k<0)with
    |true=>rw[no (by rw[e,w,f];simp)];rfl
    |false=>rw[yes (by rw[e,f];simp),lp (show ¬((i:Nat):Int)<0 by omega)];rfl
  ·rw[ifF g];cases f:decide (tU (cl v i 8) k<0)with
   |true=>rw[no (by rw[e,f,lp g];simp)];rfl
   |false=>rw[yes (by rw[e,f];simp),lp (show ¬((i:Nat):Int)<0 by omega)];rfl
theorem ij{v k nm:D}(hv:FT v):VF nm v k=.row [.int 1,.bool (us v k)]:=by
 rw[zY];exact Yt hv (len v) 0 (by omega)
def isR(v:D)(i:Nat):Bool:=Fe (kd v i)&&us v (cl v i 0)
def rgN(v:D):Nat→Int
 |0=>0
 |n+1=>if isR v n=true then rgN v n+1 else rgN v n
theorem LM{v:D}:∀n:Nat,0≤rgN v n∧rgN v n≤n
 |0=>⟨Ae8 _,Ae8 _⟩
 |n+1=>by
  have:=LM (v:=v) n;rw[rgN];split<;>omega
theorem Ev{k:Int}:Fe k=true↔1≤k∧k≤3:=by
 unfold Fe;simp only[Aew,l0];omega
theorem Ur{v nm:D}(hv:FT v){f:Nat}(k:f<len v):∀n i (c:Int),i+n=f+1→0≤c→c≤i→∃z:Int,KJ (.int (f:Nat)) (.int c) (.int (i:Nat)) nm v=.row [.int 1,.int z]∧(i≤f→(0≤z↔isR v f=true))
 |0,i,c,h,b,m=>by
  rw[bg,ifT (by omega)]
  exact⟨_,rfl,fun h=>by omega⟩
 |n+1,i,c,h,b,m=>by
  have few:=hv.few;have o:(cl v i 1).toInt=kd v i:=rfl;rw[bg,ifF (by omega),ifT (by omega),ifF (by omega),Az (by omega),o,ij hv]
  have skip:isR v i=false→∃z:Int,KJ (.int (f:Nat)) (.int c) (.int ((i+1:Nat):Int)) nm v=.row [.int 1,.int z]∧(i≤f→(0≤z↔isR v f=true)):=fun d=>by
   obtain⟨z,g,j⟩:=Ur hv k n (i+1) c (by omega) b (by omega)
   by_cases e:i=f
   ·subst e;have p:n=0:=by omega
    subst p;rw[bg,ifT (by omega)]
    exact⟨-1,rfl,fun _=>⟨fun h=>by omega,fun h=>by rw[d]at h;cases h⟩⟩
   ·exact⟨z,g,fun _=>j (by omega)⟩
  by_cases a1:kd v i<1
  ·rw[ifT a1];exact skip (by unfold isR;cases a:Fe (kd v i)with|true=>exact absurd (Ev.1 a) (by omega)|false=>rfl)
  ·rw[ifF a1];by_cases a2:3<kd v i
   ·rw[ifT a2];exact skip (by unfold isR;cases a:Fe (kd v i)with|true=>exact absurd (Ev.1 a) (by omega)|false=>rfl)
   ·rw[ifF a2,AJ];have a:Fe (kd v i)=true:=Ev.2 ⟨by omega,by omega⟩
    refine(?_:∃z:Int,cond (us v (cl v i 0)) _ _=_∧_)
    cases l:us v (cl v i 0)with
    |false=>rw[y0];exact skip (by unfold isR;rw[a,l];rfl)
    |true=>
     have d:isR v i=true:=by unfold isR;rw[a,l];rfl
     rw[Aer];by_cases e:i=f
     ·subst e;rw[ifT rfl];exact⟨c,rfl,fun _=>⟨fun _=>d,fun _=>b⟩⟩
     ·rw[ifF (by omega),Aq (by omega) (by omega)]
      obtain⟨z,g,j⟩:=Ur hv k n (i+1) (c+1) (by omega) (by omega) (by omega)
      exact⟨z,g,fun _=>j (by omega)⟩
theorem bu{v nm:D}(hv:FT v):Lh nm v=.row [.int 1,.int (rgN v (len v))]:=by
 have few:=hv.few;rw[nT]
 have e:∀n i,i+n=len v→S0 (.int (rgN v i)) (.int (i:Nat)) nm v=.row [.int 1,.int (rgN v (len v))]:=by
  intro n
  induction n with
  |zero=>
   intro i h;have:i=len v:=h;subst this;rw[eP,ifF (by omega)]
  |succ n ih=>
   intro i h;have k:=LM (v:=v) i;obtain⟨z,g,j⟩:=Ur (nm:=nm) hv (f:=i) (by omega) (i+1) 0 0 (by omega) (by omega) (by omega)
   have c:VW nm v (.int (i:Nat))=.row [.int 1,.int z]:=by rw[uh];exact g
   rw[eP,ifT (by omega),c,AJ,Az (by omega)]
   have a:=ih (i+1) (by omega)
   rw[rgN]at a;have d:=j (Aex _);refine(?_:cond (decide (z<0)) _ _=_);cases b:isR v i with
   |true=>
    rw[if_pos b]at a;rw[ifF (by have:=d.2 b;omega),Aq (by omega) (by omega)];exact a
   |false=>
    rw[if_neg (by rw[b];decide)]at a
    rw[ifT (Int.not_le.1 fun h=>by have:=d.1 h;rw[b]at this;cases this)];exact a
 exact e (len v) 0 (by omega)
theorem dA{t a k:D}(h:t.rows=a.rows):tU t k=tU a k:=by
 unfold tU;have b:len t=len a:=by unfold len;rw[h]
 have c:∀(j:Nat),cl t j 0=cl a j 0:=fun j=>by unfold cl;rw[h]
 rw[b];exact CY fun j _ _=>by rw[c]
theorem CP.us{v w k:D}(h:CP v w):Mz.us w k=Mz.us v k:=by
 unfold Mz.us;rw[h.ln];rw[CY (q:=fun i=>fU v k i)]
 intro j _ l;unfold fU kd;rw[h.o j (by omega) 1 (by decide) (by decide),h.o j (by omega) 10 (by decide) (by decide),dA (h.r8 j (by omega))]
end
end Mz
set_option maxRecDepth 4000
namespace Mz
open Go Go.AE
section
variable [Ao]
section
variable {v0 v1 v3 v4 v6 v7:D}{v2 v5:Bool}{v8:Int}
theorem TV{a b c d e f:Int}(h:len v4≤1000000):Ft v0 v1 (.bool v2) v3 v4 (.bool v5) v6 v7 (.int v8) (.int a) (.int b) (.int c) (.int d) (.int e) (.int f)=.row [.int 1,ad v4 (.row [.int a,.int b,.int c,.int d,.int e,.int f]),.bool false]:=by
 rw[qH,ifT (by omega)]
theorem KF{a b c:Int}(h:len v4≤1000000):Bh v0 v1 (.bool v2) v3 v4 (.bool v5) v6 v7 (.int v8) (.int a) (.int b) (.int c)=.row [.int 1,ad v4 (.row [.int a,.int v8,.int b,.int (-1),.int (-1),.int c]),.bool false]:=by
 rw[uH,eJ,AJ];have:=TV (v0:=v0) (v1:=v1) (v2:=v2) (v3:=v3) (v4:=v4) (v5:=v5) (v6:=v6) (v7:=v7) (v8:=v8) (a:=a) (b:=v8) (c:=b) (d:=-1) (e:=-1) (f:=c) h;rw[show sl (D.row [.int 1,.int a]) 1=.int a from rfl,this,AJ];rfl
end
structure IT(T:D):Prop where
 sh:Sh2 T
 it:∀k v,lk T k=some v→∃n,v=.int n
theorem IT.cell{T k:D}(h:IT T)(l:¬mIx [.str] T (.row [k])<0):∃n,cl T (mIx [.str] T (.row [k])) 1=.int n:=by
 have:lk T k=some (cl T (mIx [.str] T (.row [k])) 1):=by unfold lk;rw[if_neg l]
 exact h.it k _ this
theorem Wm{c q nm st T R:D}{b2:Bool}{f m:Int}(l:IT T)(o:len c≤10):∀n j (C:D) (b:Bool),j+n=len c→len C+n≤900000→∃a d,MV (.int f) c (.int (j:Nat)) nm q (.bool b2) st C (.bool b) T R (.int m)=.row [.int 1,a,.bool d]∧len a=len C+n
 |0,j,C,b,h,p=>by
  rw[fJ _ _ _ _ _ _ _ _ _ _ _ _ rfl rfl,ifF (by omega)]
  exact⟨C,b,rfl,rfl⟩
 |n+1,j,C,b,h,p=>by
  have nx:∀(i:D),len i=len C+1→∃a d,MV (.int f) c (.int ((j+1:Nat):Int)) nm q (.bool b2) st i (.bool false) T R (.int m)=.row [.int 1,a,.bool d]∧len a=len C+(n+1):=fun i u=>by
   obtain⟨a,d,r,v⟩:=Wm l o n (j+1) i false (by omega) (by omega)
   exact⟨a,d,r,by omega⟩
  rw[fJ _ _ _ _ _ _ _ _ _ _ _ _ rfl rfl,ifT (by omega),ifF (by omega),Az (by omega)]
  have step:∀x:Int,∀e:D,e=.int x→∃a d,cond (decide ((sl (Bh nm q (.bool b2) st C (.bool b) T R (.int m) (.int 8) (.int f) e) 0).toInt=1)) (cond (decide ((wrap .i64 ((len (sl (Bh nm q (.bool b2) st C (.bool b) T R (.int m) (.int 8) (.int f) e) 1):Int)-1))<0)) (.row []) (cond (decide ((wrap .i64 ((len (sl (Bh nm q (.bool b2) st C (.bool b) T R (.int m) (.int 8) (.int f) e) 1):Int)-1))<(len (sl (Bh nm q (.bool b2) st C (.bool b) T R (.int m) (.int 8) (.int f) e) 1):Int)))
    (MV (.int f) c (.int ((j+1:Nat):Int)) nm q (.bool b2) st (upd (sl (Bh nm q (.bool b2) st C (.bool b) T R (.int m) (.int 8) (.int f) e) 1) (wrap .i64 ((len (sl (Bh nm q (.bool b2) st C (.bool b) T R (.int m) (.int 8) (.int f) e) 1):Int)-1)) 4 (.int ((j:Nat):Int))) (sl (Bh nm q (.bool b2) st C (.bool b) T R (.int m) (.int 8) (.int f) e) 2) T R (.int m)) (.row []))) (.row [])=.row [.int 1,a,.bool d]∧len a=len C+(n+1):=fun x e s=>by
   subst s;rw[KF (by omega),AJ]
   have g:len (sl (D.row [.int 1,ad C (.row [.int 8,.int m,.int f,.int (-1),.int (-1),.int x]),.bool false]) 1)=len C+1:=by
    show len (ad C _)=_;rw[B4]
   rw[g,Aq (by omega) (by omega),ifF (by omega),ifT (by omega)]
   exact nx _ (by rw[D8];exact g)
  by_cases k:mIx [.str] T (.row [cl c j 2])<0
  ·rw[ifT k];exact step 0 _ rfl
  ·obtain⟨x,t⟩:=l.cell k;rw[ifF k];exact step x _ t
theorem gA{q nm st C T R:D}{b2 b:Bool}{m k:Int}{x10 x18 x19 x20 x21 c:D}{x11 x12 x15 x16 x17 x23 x24:Int}{x13 x14:Bool}(e:IT T)(g:len c≤10)(j:len C≤800000) :
  ∃a d,Vu nm q (.bool b2) st C (.bool b) T R (.int m) (.int k) x10 (.int x11) (.int x12) (.bool x13) (.bool x14) (.int x15) (.int x16) (.int x17) x18 x19 x20 x21 c (.int x23) (.int x24)=.row [.int 1,a,.bool d]∧len a=len C+1+len c:=by
 rw[uW,KF (by omega),AJ]
 obtain⟨a,d,h,i⟩:=Wm (c:=c) (q:=q) (nm:=nm) (st:=st) (T:=T) (R:=R) (b2:=b2) (f:=k) (m:=m) e g (len c) 0 (ad C (.row [.int 7,.int m,.int k,.int (-1),.int (-1),.int (-1)])) false (by omega) (by rw[B4];omega)
 exact⟨a,d,h,by rw[i,B4]⟩
structure RP(v nm R0:D)(k:Nat)(R:D):Prop where
 sh:Sh2 R
 at':lk R nm=some (.int (rgN v k))
 el:∀x,D.strEq nm x=false→lk R x=lk R0 x
section
variable {q nmP st B T v w nm R0:D}{b1 b5:Bool}{N:Int}{i L:Nat}
theorem WE(hq:i<len q)(u:cl q i 0=nm)(hw:cl q i 1=w)(y:CP v w)(hv:FT v)(P:IT T)(hL:L≤90000):∀n k (C:D) (b:Bool) (R:D),k+n=len v→len C≤L+11*k→RP v nm R0 k R→
  ∃a p f,BU q (.bool b1) (.int N) (.int (i:Nat)) w (.int (len w:Int)) (.int (k:Nat)) nmP (.bool b5) st C (.bool b) (.int (i:Nat)) B (.int (i:Nat)) (.int (i:Nat)) (.int (i:Nat)) (.int (i:Nat)) T R=HI q (.bool b1) (.int N) (.int (wrap .i64 ((i:Nat)+1))) nmP (.bool b5) st a (.bool p) (.int (i:Nat)) B T f∧len a≤len C+11*n+1∧0<len a∧RP v nm R0 (len v) f
 |0,k,C,b,R,h,hC,hR=>by
  have few:=hv.few;have hl:=y.ln;have:k=len v:=h;subst this;rw[fW _ _ _ _ _ _ _ _ _ _ _ _ _ _ _ _ _ _ _ _ rfl rfl rfl rfl rfl rfl rfl rfl,ifF (by omega),KF (by omega),AJ]
  exact⟨_,_,R,rfl,by show len (ad C _)≤_;rw[B4];omega,by show 0<len (ad C _);rw[B4];omega,hR⟩
 |n+1,k,C,b,R,h,hC,hR=>by
  have few:=hv.few;have hl:=y.ln;have g:k<len v:=by omega
  have Q:len (cl w k 12)≤10:=by
   have:=hv.len12 k g;show(cl w k 12).rows.length≤10;rw[y.r12 k g];exact this
  obtain⟨l,S⟩:=hv.i1 k g;obtain⟨n2,h2⟩:=hv.i2 k g;obtain⟨n3,h3⟩:=hv.b3 k g;obtain⟨n4,h4⟩:=hv.b4 k g;obtain⟨n5,h5⟩:=hv.i5 k g;obtain⟨n6,h6⟩:=hv.i6 k g;obtain⟨n7,h7⟩:=hv.i7 k g;obtain⟨U,V⟩:=hv.i13 k g;obtain⟨W,X⟩:=hv.i14 k g;have o:∀c,c≠8→c≠12→cl w k c=cl v k c:=y.o k g
  have nx:∀(M:D)(b2:Bool)(O:D),len M≤len C+11→RP v nm R0 (k+1) O→∃a p f,BU q (.bool b1) (.int N) (.int (i:Nat)) w (.int (len w:Int)) (.int ((k+1:Nat):Int)) nmP (.bool b5) st M (.bool b2) (.int (i:Nat)) B (.int (i:Nat)) (.int (i:Nat)) (.int (i:Nat)) (.int (i:Nat)) T O=HI q (.bool b1) (.int N) (.int (wrap .i64 ((i:Nat)+1))) nmP (.bool b5) st a (.bool p) (.int (i:Nat)) B T f∧len a≤len C+11*(n+1)+1∧0<len a∧RP v nm R0 (len v) f:=fun M b2 O ae Y=>by
   obtain⟨a,p,f,g1,g2,Z,g4⟩:=WE hq u hw y hv P hL n (k+1) M b2 O (by omega) (by omega) Y
   exact⟨a,p,f,g1,by omega,Z,g4⟩
  have keep:isR v k=false→RP v nm R0 (k+1) R:=fun A=>⟨hR.sh,by rw[hR.at',rgN,if_neg (by rw[A];decide)],hR.el⟩
  obtain⟨G,aa,ab,af⟩:=gA (q:=q) (nm:=nmP) (st:=st) (C:=C) (T:=T) (R:=R) (b2:=b5) (b:=b) (m:=(i:Nat)) (k:=(k:Nat)) (x10:=cl w k 0) (x18:=cl w k 8) (x19:=cl w k 9) (x20:=cl w k 10) (x21:=cl w k 11) (c:=cl w k 12) (x11:=l) (x12:=n2) (x13:=n3) (x14:=n4) (x15:=n5) (x16:=n6) (x17:=n7) (x23:=U) (x24:=W) P Q (by omega)
  have g0:Vu nmP q (.bool b5) st C (.bool b) T R (.int (i:Nat)) (.int (k:Nat)) (cl w k 0) (cl w k 1) (cl w k 2) (cl w k 3) (cl w k 4) (cl w k 5) (cl w k 6) (cl w k 7) (cl w k 8) (cl w k 9) (cl w k 10) (cl w k 11) (cl w k 12) (cl w k 13) (cl w k 14)=.row [.int 1,G,.bool aa]:=by
   rw[o 1 (by decide) (by decide),o 2 (by decide) (by decide),o 3 (by decide) (by decide),o 4 (by decide) (by decide),o 5 (by decide) (by decide),o 6 (by decide) (by decide),o 7 (by decide) (by decide),o 13 (by decide) (by decide),o 14 (by decide) (by decide),S,h2,h3,h4,h5,h6,h7,V,X]
   exact ab
  have e:∀E:Int,∃F,Bh nmP q (.bool b5) st C (.bool b) T R (.int (i:Nat)) (.int E) (.int (k:Nat)) (cl T (mIx [.str] T (.row [cl w k 9])) 1)=F∧(¬mIx [.str] T (.row [cl w k 9])<0→∃r,F=.row [.int 1,ad C r,.bool false]):=fun E=>⟨_,rfl,fun g=>by
   obtain⟨x,s⟩:=P.cell g;rw[s,KF (by omega)];exact⟨_,rfl⟩⟩
  obtain⟨F5,g5,p5⟩:=e 9;obtain⟨F6,g6,p6⟩:=e 6;obtain⟨F7,g7,p7⟩:=e 5;have z:¬mIx [.str] R (.row [nm])<0:=(Gc hR.at').1;have t:cl R (mIx [.str] R (.row [nm])) 1=.int (rgN v k):=(Gc hR.at').2;have ac:(cl w k 1).toInt=l:=by rw[o 1 (by decide) (by decide),S];rfl
  have H:kd v k=l:=by unfold kd;rw[S];rfl
  have ag:=LM (v:=v) k
  have g2:Ft nmP q (.bool b5) st C (.bool b) T (upd R (mIx [.str] R (.row [(cl q i 0)])) 1 (.int (wrap .i64 ((cl R (mIx [.str] R (.row [(cl q i 0)])) 1).toInt+1)))) (.int (i:Nat)) (sl (.row [.int 1,.int 4]) 1) (.int (i:Nat)) (.int (k:Nat)) (cl R (mIx [.str] R (.row [(cl q i 0)])) 1) (.int (-1)) (.int (-1))=.row [.int 1,ad C (.row [.int 4,.int (i:Nat),.int (k:Nat),.int (rgN v k),.int (-1),.int (-1)]),.bool false]:=by
   rw[u,t];exact TV (by omega)
  have Z:Ft nmP q (.bool b5) st C (.bool b) T R (.int (i:Nat)) (sl (.row [.int 1,.int 4]) 1) (.int (i:Nat)) (.int (k:Nat)) (.int (-1)) (.int (-1)) (.int (-1))=.row [.int 1,ad C (.row [.int 4,.int (i:Nat),.int (k:Nat),.int (-1),.int (-1),.int (-1)]),.bool false]:=TV (by omega)
  rw[fW _ _ _ _ _ _ _ _ _ _ _ _ _ _ _ _ _ _ _ _ g0 (eJ 4) g2 Z rfl g5 g6 g7,ifT (by omega),ifF (by omega),ifT (by omega),Az (by omega),ac]
  have I:∀r,len (ad C r)≤len C+11:=fun r=>by rw[B4];omega
  have ref:∀{E:Int}{F:D},(¬mIx [.str] T (.row [cl w k 9])<0→∃r,F=.row [.int 1,ad C r,.bool false])→isR v k=false→∃a p f,cond (decide (mIx [.str] T (.row [(cl w k 9)])<0)) (cond (decide ((sl (Bh nmP q (.bool b5) st C (.bool b) T R (.int (i:Nat)) (.int E) (.int (k:Nat)) (.int 0)) 0).toInt=1)) (BU q (.bool b1) (.int N) (.int (i:Nat)) w (.int (len w:Int)) (.int ((k+1:Nat):Int)) nmP (.bool b5) st (sl (Bh nmP q (.bool b5) st C (.bool b) T R (.int (i:Nat)) (.int E) (.int (k:Nat)) (.int 0)) 1) (sl (Bh nmP q (.bool b5) st C (.bool b) T R (.int (i:Nat)) (.int E) (.int (k:Nat)) (.int 0)) 2) (.int (i:Nat)) B (.int (i:Nat)) (.int (i:Nat)) (.int (i:Nat)) (.int (i:Nat)) T R) (.row []))
    (cond (decide ((sl F 0).toInt=1)) (BU q (.bool b1) (.int N) (.int (i:Nat)) w (.int (len w:Int)) (.int ((k+1:Nat):Int)) nmP (.bool b5) st (sl F 1) (sl F 2) (.int (i:Nat)) B (.int (i:Nat)) (.int (i:Nat)) (.int (i:Nat)) (.int (i:Nat)) T R) (.row []))=HI q (.bool b1) (.int N) (.int (wrap .i64 ((i:Nat)+1))) nmP (.bool b5) st a (.bool p) (.int (i:Nat)) B T f∧len a≤len C+11*(n+1)+1∧0<len a∧RP v nm R0 (len v) f:=fun hp A=>by
   by_cases s:mIx [.str] T (.row [cl w k 9])<0
   ·rw[ifT s,KF (by omega),AJ];exact nx _ _ _ (I _) (keep A)
   ·obtain⟨r,rfl⟩:=hp s;rw[ifF s,AJ];exact nx _ _ _ (I _) (keep A)
  have d:Fe l=false→isR v k=false:=fun hn=>by unfold isR;rw[H,hn];rfl
  have J:∀m:Int,¬(1≤m∧m≤3)→Fe m=false:=fun m hm=>by cases hh:Fe m with|true=>exact absurd (Ev.1 hh) hm|false=>rfl
  by_cases k8:l=8
  ·rw[ifT k8];exact ref p7 (d (J _ (by omega)))
  rw[ifF k8];by_cases k7:l=7
  ·rw[ifT k7];exact ref p6 (d (J _ (by omega)))
  rw[ifF k7];by_cases k12:l=12
  ·rw[ifT k12];exact ref p5 (d (J _ (by omega)))
  rw[ifF k12];by_cases k9:l=9
  ·rw[ifT k9,AJ];exact nx _ _ _ (by show len G≤_;omega) (keep (d (J _ (by omega))))
  rw[ifF k9,AJ,ifF (by omega),ifT (by omega),u]
  have hu:JD nm (cl q i 1) (cl w k 0)=.row [.int 1,.bool (us v (cl v k 0))]:=by
   rw[hw,gS (by omega) (fun j hj=>by show(cl w j 8).rows.length≤6;rw[y.r8 j (by omega)];exact hv.len8 j (by omega)),y.us,o 0 (by decide) (by decide)]
  rw[hu]
  have num:Fe l=true→∃a p f,cond (decide ((sl (.row [.int 1,.bool (us v (cl v k 0))]) 0).toInt=1)) (cond ((sl (.row [.int 1,.bool (us v (cl v k 0))]) 1).toBool) (cond (decide ((mIx [.str] R (.row [nm]))<0)) (cond (decide ((sl (Ft nmP q (.bool b5) st C (.bool b) T (ad R (.row [nm,(.int 1)])) (.int (i:Nat)) (sl (.row [.int 1,.int 4]) 1) (.int (i:Nat)) (.int (k:Nat)) (.int 0) (.int (-1)) (.int (-1))) 0).toInt=1))
    (BU q (.bool b1) (.int N) (.int (i:Nat)) w (.int (len w:Int)) (.int ((k+1:Nat):Int)) nmP (.bool b5) st (sl (Ft nmP q (.bool b5) st C (.bool b) T (ad R (.row [nm,(.int 1)])) (.int (i:Nat)) (sl (.row [.int 1,.int 4]) 1) (.int (i:Nat)) (.int (k:Nat)) (.int 0) (.int (-1)) (.int (-1))) 1) (sl (Ft nmP q (.bool b5) st C (.bool b) T (ad R (.row [nm,(.int 1)])) (.int (i:Nat)) (sl (.row [.int 1,.int 4]) 1) (.int (i:Nat)) (.int (k:Nat)) (.int 0) (.int (-1)) (.int (-1))) 2) (.int (i:Nat)) B (.int (i:Nat)) (.int (i:Nat)) (.int (i:Nat)) (.int (i:Nat)) T (ad R (.row [nm,(.int 1)]))) (.row [])) (cond (decide ((sl (.row [.int 1,ad C (.row [.int 4,.int (i:Nat),.int (k:Nat),.int (rgN v k),.int (-1),.int (-1)]),.bool false]) 0).toInt=1)) (BU q (.bool b1) (.int N) (.int (i:Nat)) w (.int (len w:Int)) (.int ((k+1:Nat):Int)) nmP (.bool b5) st (sl (.row [.int 1,ad C (.row [.int 4,.int (i:Nat),.int (k:Nat),.int (rgN v k),.int (-1),.int (-1)]),.bool false]) 1) (sl (.row [.int 1,ad C (.row [.int 4,.int (i:Nat),.int (k:Nat),.int (rgN v k),.int (-1),.int (-1)]),.bool false]) 2) (.int (i:Nat)) B (.int (i:Nat)) (.int (i:Nat)) (.int (i:Nat)) (.int (i:Nat)) T (upd R (mIx [.str] R (.row [nm])) 1 (.int (wrap .i64 ((cl R (mIx [.str] R (.row [nm])) 1).toInt+1))))) (.row []))) (cond (decide ((sl (.row [.int 1,ad C (.row [.int 4,.int (i:Nat),.int (k:Nat),.int (-1),.int (-1),.int (-1)]),.bool false]) 0).toInt=1)) (BU q (.bool b1) (.int N) (.int (i:Nat)) w (.int (len w:Int)) (.int ((k+1:Nat):Int)) nmP (.bool b5) st (sl (.row [.int 1,ad C (.row [.int 4,.int (i:Nat),.int (k:Nat),.int (-1),.int (-1),.int (-1)]),.bool false]) 1) (sl (.row [.int 1,ad C (.row [.int 4,.int (i:Nat),.int (k:Nat),.int (-1),.int (-1),.int (-1)]),.bool false]) 2) (.int (i:Nat)) B (.int (i:Nat)) (.int (i:Nat)) (.int (i:Nat)) (.int (i:Nat)) T R) (.row []))) (.row [])=HI q (.bool b1) (.int N) (.int (wrap .i64 ((i:Nat)+1))) nmP (.bool b5) st a (.bool p) (.int (i:Nat)) B T f∧len a≤len C+11*(n+1)+1∧0<len a∧RP v nm R0 (len v) f:=fun hn=>by
   rw[AJ];refine(?_:∃a p f,cond (us v (cl v k 0)) _ _=_∧_)
   cases K:us v (cl v k 0)with
   |false=>
    rw[y0,AJ];exact nx _ _ _ (I _) (keep (by unfold isR;rw[K,Bool.and_false]))
   |true=>
    have A:isR v k=true:=by unfold isR;rw[H,hn,K];rfl
    rw[Aer,ifF z,AJ,t];refine nx _ _ _ (I _) ⟨hR.sh.upd,?_,fun x s=>?_⟩
    ·rw[ZN hR.sh z,if_pos BZ,rgN,if_pos A];show some (D.int (wrap .i64 (rgN v k+1)))=_;rw[Aq (by omega) (by omega)]
    ·rw[ZN hR.sh z,if_neg (by rw[s];decide)];exact hR.el x s
  by_cases k1:l=1
  ·rw[ifT k1];exact num (Ev.2 (by omega))
  rw[ifF k1];by_cases k2:l=2
  ·rw[ifT k2];exact num (Ev.2 (by omega))
  rw[ifF k2];by_cases k3:l=3
  ·rw[ifT k3];exact num (Ev.2 (by omega))
  rw[ifF k3,AJ];exact nx _ _ _ (I _) (keep (d (J _ (by omega))))
end
end
end Mz
set_option maxRecDepth 4000
namespace Mz
open Go Go.AE
section
variable [Ao]
def rg(a:D)(j:Nat):Int:=rgN (fsI a j) (len (fsI a j))
structure TS(ms:D)(i:Nat)(T:D):Prop where
 it:IT T
 no:∀x,(∀j,j<i→D.strEq (nmI ms j) x=false)→lk T x=none
structure RS(ms B:D)(i:Nat)(R:D):Prop where
 sh:Sh2 R
 yes:∀j,j<i→Kn B (nmI ms j)→lk R (nmI ms j)=some (.int (rg ms j))
 un:∀j,j<i→¬Kn B (nmI ms j)→lk R (nmI ms j)=none
 no:∀x,(∀j,j<i→D.strEq (nmI ms j) x=false)→lk R x=none
section
variable {ms q nmP st B M:D}{b1 b5:Bool}{dp:Nat→Int}
theorem Pv(H:GP ms (len ms) M dp)(W:len ms≤9)(J:BT B)(w:CM ms q):∀n i (C T R:D) (b:Bool) (m:Int),i+n=len ms→0<len C→len C≤2+178*i→TS ms i T→RS ms B i R→
  ∃t y K p,HI q (.bool b1) (.int (len ms:Int)) (.int (i:Nat)) nmP (.bool b5) st C (.bool b) (.int m) B T R=.row [.int 2,nmP,q,.bool b5,st,t,.bool y,K,p]∧0<len t∧RS ms B (len ms) p
 |0,i,C,T,R,b,m,h,I,X,g,hR=>by
  have:i=len ms:=h;subst this;rw[ga,ifF (by omega)]
  by_cases c:mIx [.str] T (.row [st])<0
  ·rw[ifT c,ifT (by omega)];exact⟨_,_,_,_,rfl,by rw[D8];exact I,hR⟩
  ·rw[ifF c,ifT (by omega)];exact⟨_,_,_,_,rfl,by rw[D8];exact I,hR⟩
 |n+1,i,C,T,R,b,m,h,I,X,g,hR=>by
  have hi:i<len ms:=by omega
  have Y:=w.ln;have z:cl q i 0=nmI ms i:=w.nm i hi;have e:∀j,j<i→D.strEq (nmI ms j) (nmI ms i)=false:=fun j f=>H.dist j i f hi
  rw[ga,ifT (by omega),ifF (by omega),ifT (by omega),Az (by omega),z]
  by_cases A:mIx [.str] B (.row [nmI ms i])<0
  ·rw[ifT A];have O:¬Kn B (nmI ms i):=fun Z=>Z A
   refine Pv H W J w n (i+1) C T R b m (by omega) I (by omega) ⟨g.it,fun x c=>g.no x fun j f=>c j (by omega)⟩ ⟨hR.sh,fun j f d=>?_,fun j f d=>?_,fun x c=>hR.no x fun j f=>c j (by omega)⟩
   ·rcases hH j i with a|a
    ·exact hR.yes j a d
    ·have:j=i:=by omega
     subst this;exact absurd d O
   ·rcases hH j i with a|a
    ·exact hR.un j a d
    ·have:j=i:=by omega
     subst this;exact hR.no _ e
  ·have d:Kn B (nmI ms i):=A;have r:cl B (mIx [.str] B (.row [nmI ms i])) 1=.bool true:=J.tr (nmI ms i) _ (by unfold lk;rw[if_neg A])
   have P:=LP (g.no _ e);have Q:=LP (hR.no _ e);have E:=H.fo i hi;have few:=E.ft.few;have F:CP (fsI ms i) (cl q i 1):=w.fs i hi;have aa:=F.ln;rw[ifF A,r];refine(?_:∃t y K p,cond true _ _=_∧_)
   rw[Aer,ifT P,ifT Q,Ql,Ql,KF (by omega),AJ]
   have G:IT (ad T (.row [nmI ms i,.int (len C:Int)])):=⟨g.it.sh.ad,fun k v hv=>by
    rw[HS g.it.sh]at hv;cases s:lk T k with
    |some u=>rw[s]at hv;cases hv;exact g.it.it k _ s
    |none=>
     rw[s]at hv;simp only at hv;split at hv
     ·cases hv;exact⟨_,rfl⟩
     ·cases hv⟩
   have S:RP (fsI ms i) (nmI ms i) (ad R (.row [nmI ms i,.int 0])) 0 (ad R (.row [nmI ms i,.int 0])):=⟨hR.sh.ad,by rw[HS hR.sh,hR.no _ e];simp[BZ,rgN],fun x _=>rfl⟩
   obtain⟨t,y,p,g1,g2,g3,U⟩:=WE (q:=q) (nmP:=nmP) (st:=st) (B:=B) (b1:=b1) (b5:=b5) (N:=(len ms:Int)) (L:=3+178*i) (by omega) z rfl F E.ft G (by omega) (len (fsI ms i)) 0 (ad C (.row [.int 3,.int (i:Nat),.int (-1),.int (-1),.int (-1),.int (-1)])) false (ad R (.row [nmI ms i,.int 0])) (by omega) (by rw[B4];omega) S
   refine(?_:∃t y K p,BU q (.bool b1) (.int (len ms:Int)) (.int (i:Nat)) (cl q i 1) (.int (len (cl q i 1):Int)) (.int ((0:Nat):Int)) nmP (.bool b5) st (ad C (.row [.int 3,.int (i:Nat),.int (-1),.int (-1),.int (-1),.int (-1)])) (.bool false) (.int (i:Nat)) B (.int (i:Nat)) (.int (i:Nat)) (.int (i:Nat)) (.int (i:Nat)) (ad T (.row [nmI ms i,.int (len C:Int)])) (ad R (.row [nmI ms i,.int 0]))=_∧_)
   rw[g1,Az (by omega)]
   rw[B4]at g2
   have V:∀x,D.strEq (nmI ms i) x=false→lk p x=lk R x:=fun x c=>by
    rw[U.el x c,HS hR.sh];cases lk R x with
    |some u=>rfl
    |none=>simp[c]
   have o:∀j,j<i→D.strEq (nmI ms i) (nmI ms j)=false:=fun j f=>by rw[AQ];exact e j f
   refine Pv H W J w n (i+1) t _ p y _ (by omega) g3 (by omega) ⟨G,fun x c=>?_⟩ ⟨U.sh,fun j f l=>?_,fun j f l=>?_,fun x c=>?_⟩
   ·rw[HS g.it.sh,g.no x fun j f=>c j (by omega)]
    simp[c i (by omega)]
   ·rcases hH j i with a|a
    ·rw[V _ (o j a)];exact hR.yes j a l
    ·have:j=i:=by omega
     subst this;exact U.at'
   ·rcases hH j i with a|a
    ·rw[V _ (o j a)];exact hR.un j a l
    ·have:j=i:=by omega
     subst this;exact absurd d l
   ·rw[V x (c i (by omega))];exact hR.no x fun j f=>c j (by omega)
end
theorem kR{a c st M:D}{y:Nat→Int}(e:Hd a c st=.row [.int 1,.bool true])(z:TD c)(f:GP c (len c) M y)(g:len c≤9)(A:Kn M st) :
  ∃q b5 C b T R B,Zl a c st=.row [.int 2,a,q,.bool b5,st,C,.bool b,T,R]∧0<len C∧BT B∧RS c B (len c) R∧(∀k,Kn B k→Rch c st k)∧Kn B st∧∀j,j<len c→Kn B (nmI c j)→∀r∈rfs c j,Kn B r:=by
 have hv:∀m:Nat,m<len c→FT (cl c m 1):=fun m E=>(f.fo m E).ft
 obtain⟨q,b5,h,t⟩:=iE (a:=a) (st:=st) z g hv;obtain⟨B,i,u,l,n,o⟩:=jb a st f g (a:=a) (b:=a) A;rw[vL,e,AJ];refine(?_:∃q b5 C b T R B,cond true _ _=_∧_)
 rw[Aer,h,AJ];have d:Si a c st (ad Al (.row [(sl (.row [.int 1,a,q,.bool b5,st]) 4)])) (.bool false)=.row [.int 1,B]:=i;rw[d,AJ];have L:∀x:D,lk Al x=none:=fun x=>rfl
 obtain⟨F,G,H,I,w,J,K⟩:=Pv (nmP:=a) (st:=st) (b1:=b5) (b5:=b5) f g u t (len c) 0 (ad (ad Al (.row [(.int 1),(.int (-1)),(.int (-1)),(.int (-1)),(.int (-1)),(.int (-1))])) (.row [(.int 2),(.int (-1)),(.int (-1)),(.int (-1)),(.int (-1)),(.int (-1))])) Al Al false 0 (by omega) (by decide) (by show 2≤_;omega) ⟨⟨Sh2.empty,fun k v hv=>by cases hv⟩,fun x _=>rfl⟩ ⟨Sh2.empty,fun j p=>absurd p (hX _),fun j p=>absurd p (hX _),fun x _=>rfl⟩
 have s:(len q:Int)=len c:=by rw[t.ln]
 rw[←s]at w;exact⟨q,b5,F,G,H,I,B,w,J,u,K,l,n,o⟩
theorem kC{x0 x1 x3 C x6 R k:D}{x2 x5:Bool}(a:0<len C):HL x0 x1 (.bool x2) x3 C (.bool x5) x6 R k=match lk R k with|some v=>.row [.int 1,v,.int 0]|none=>.row [.int 1,.int 0,.int 9]:=by
 rw[yw,ifF (by omega)]
 unfold lk;by_cases h:mIx [.str] R (.row [k])<0
 ·rw[ifT h,if_pos h]
 ·rw[ifF h,if_neg h]
end
end Mz
set_option maxRecDepth 4000
namespace Mz
open Go Go.AE
section
variable [Ao]
structure GB(f:D→Int)(L:List D)(m:Int):Prop where
 nn:0≤m
 le:∀r∈L,f r≤m
 at':m=0∨∃r∈L,f r=m
theorem GB.uniq{f:D→Int}{L:List D}{m l:Int}(h:GB f L m)(h':GB f L l):m=l:=by
 have t:∀{a b},GB f L a→GB f L b→a≤b:=fun{a b} J I=>by
  rcases J.at' with e|⟨r,hr,e⟩
  ·have:=I.nn;omega
  ·have:=I.le r hr;omega
 have h1:=t h h';have h2:=t h' h;omega
def mxL(f:D→Int):List D→Int
 |[]=>0
 |r::L=>if mxL f L<f r then f r else mxL f L
theorem Us{f:D→Int}:∀L:List D,GB f L (mxL f L)
 |[]=>⟨Ae8 _,(fun r b=>by cases b),.inl rfl⟩
 |r::L=>by
  have h:=Us (f:=f) L;have c:=h.nn;rw[mxL];split
  ·refine⟨by omega,fun x a=>?_,.inr ⟨r,Ae7,rfl⟩⟩
   rcases i0.1 a with e|e
   ·subst e;omega
   ·have:=h.le x e;omega
  ·refine⟨c,fun x a=>?_,h.at'.imp id fun⟨y,d,e⟩=>⟨y,Ae1 _ d,e⟩⟩
   rcases i0.1 a with e|e
   ·subst e;omega
   ·exact h.le x e
theorem Kj{f g:D→Int}:∀L:List D,(∀r∈L,f r=g r)→mxL f L=mxL g L
 |[],_=>rfl
 |r::L,h=>by rw[mxL,mxL,Kj L fun x a=>h x (Ae1 _ a),h r Ae7]
def ixI(a r:D):Nat:=(ixN a (len a) r).toNat
def RGn(a:D):Nat→Nat→Int
 |0,_=>0
 |k+1,i=>rg a i+mxL (fun r=>RGn a k (ixI a r)) (rfs a i)
def RG(a:D)(i:Nat):Int:=RGn a (i+1) i
def rv(a r:D):Int:=RG a (ixI a r)
section
variable {ms M:D}{dp:Nat→Int}
theorem GP.ref'(t:GP ms (len ms) M dp){i:Nat}(hi:i<len ms){r:D}(I:r∈rfs ms i):ixI ms r<i∧ixN ms (len ms) r=(ixI ms r:Nat)∧D.strEq (nmI ms (ixI ms r)) r=true∧dp (ixI ms r)<dp i:=by
 obtain⟨j,J,l,h2,h3⟩:=t.ref hi I;have e:ixI ms r=j:=by unfold ixI;rw[l];simp
 rw[e];exact⟨J,l,h2,h3⟩
theorem Y2(b:GP ms (len ms) M dp):∀n i k,i≤n→i<k→i<len ms→RGn ms k i=RG ms i:=by
 intro n
 induction n with
 |zero=>
  intro i k c d a;have e:i=0:=by omega
  subst e;obtain⟨k,rfl⟩:∃j,k=j+1:=⟨k-1,by omega⟩
  unfold RG;rw[RGn,RGn,Fl b a];rfl
 |succ n ih=>
  intro i k c d a;obtain⟨k,rfl⟩:∃j,k=j+1:=⟨k-1,by omega⟩
  unfold RG;rw[RGn,RGn]
  congr 1
  refine Kj _ fun r f=>?_
  obtain⟨g,_⟩:=b.ref' a f;rw[ih _ k (by omega) (by omega) (by omega),ih _ i (by omega) (by omega) (by omega)]
theorem V9(a:GP ms (len ms) M dp){i:Nat}(hi:i<len ms):RG ms i=rg ms i+mxL (rv ms) (rfs ms i):=by
 have b:=Y2 a i i (i+1+1) (R2 _) (by omega) hi
 rw[←b,RGn]
 congr 1
 refine Kj _ fun r c=>?_
 obtain⟨d,_⟩:=a.ref' hi c;exact Y2 a i _ _ (by omega) (by omega) (by omega)
theorem J3(a:GP ms (len ms) M dp){i:Nat}(hi:i<len ms):0≤rg ms i∧rg ms i≤16:=by
 have h:=LM (v:=fsI ms i) (len (fsI ms i));have few:=(a.fo i hi).ft.few;unfold rg;omega
theorem aj(b:GP ms (len ms) M dp):∀n i,i≤n→i<len ms→0≤RG ms i∧RG ms i≤16*(i+1):=by
 intro n
 induction n with
 |zero=>
  intro i d a;have g:i=0:=by omega
  subst g;have:=J3 b a;rw[V9 b a,Fl b a];show 0≤rg ms 0+0∧rg ms 0+0≤_;omega
 |succ n ih=>
  intro i d a;have j:=J3 b a;rw[V9 b a];have h:=Us (f:=rv ms) (rfs ms i);have k:=h.nn;refine⟨by omega,?_⟩
  rcases h.at' with e|⟨r,c,e⟩
  ·omega
  ·obtain⟨l,_⟩:=b.ref' a c;have:=ih (ixI ms r) (by omega) (by omega)
   have m:RG ms (ixI ms r)=_:=e;omega
theorem Ss{a b:D}(h:D.strEq a b=true):rv ms a=rv ms b:=by unfold rv ixI;rw[Cv h]
theorem Yj(a:GP ms (len ms) M dp){i:Nat}(hi:i<len ms)(d:len ms≤9){m:Int}(b:GB (rv ms) (rfs ms i) m):0≤m∧m≤150∧RG ms i=rg ms i+m:=by
 have e:=(Us (f:=rv ms) (rfs ms i)).uniq b;have c:=V9 a hi;have g:=aj a i i (R2 _) hi;have h:=J3 a hi;have j:=b.nn;rw[e]at c;omega
theorem hZ(x:GP ms (len ms) M dp){S l:D}{i:Nat}(hi:i<len ms)(a:l.rows=nms (rfs ms i))(C:∀r∈rfs ms i,lk S r=some (.int (rv ms r))):∃m,O1 S (.int 0) l=.row [.int 1,.int m]∧GB (rv ms) (rfs ms i) m:=by
 have E:=Fc (x.fo i hi).ft _ (R2 _);have few:=(x.fo i hi).ft.few;have y:len l=(rfs ms i).length:=by show l.rows.length=_;rw[a];simp[nms]
 have F:(rfs ms i).length≤160:=by unfold rfs;omega
 have f:∀j (b:j<(rfs ms i).length),cl l j 0=(rfs ms i)[j]:=fun j b=>E8 a b
 have G:∀k q (m:Int),q+k=len l→0≤m→(∀j (b:j<(rfs ms i).length),j<q→rv ms (rfs ms i)[j]≤m)→(m=0∨∃r∈rfs ms i,rv ms r=m)→∃w,I7 l (.int (q:Nat)) S (.int m)=.row [.int 1,.int w]∧GB (rv ms) (rfs ms i) w:=by
  intro k
  induction k with
  |zero=>
   intro q m h A c g;rw[fi,ifF (by omega)]
   refine⟨m,rfl,A,fun r s=>?_,g⟩
   obtain⟨j,b,rfl⟩:=sd s;exact c j b (by omega)
  |succ k ih=>
   intro q m h A c g;have t:q<(rfs ms i).length:=by omega
   obtain⟨z,H,u,_⟩:=TX (l:=l) (i:=q) (by omega) (by omega)
   have d:(rfs ms i)[q]∈rfs ms i:=Aet t
   have nx:∀n,m≤n→rv ms (rfs ms i)[q]≤n→(n=m∨rv ms (rfs ms i)[q]=n)→∃w,I7 l (.int ((q+1:Nat):Int)) S (.int n)=.row [.int 1,.int w]∧GB (rv ms) (rfs ms i) w:=fun n v s I=>by
    refine ih (q+1) n (by omega) (by omega) (fun j b J=>?_) ?_
    ·rcases hH j q with p|p
     ·have:=c j b p;omega
     ·have:j=q:=by omega
      subst this;exact s
    ·rcases I with e|e
     ·subst e;exact g
     ·exact .inr ⟨_,d,e⟩
   rw[fi,ifT (by omega),ifF (by omega),ifF (by omega),H,Az (by omega),AJ]
   refine(?_:∃w:Int,cond (decide (z<0)) _ _=_∧_)
   by_cases o:z<0
   ·obtain⟨K,L⟩:=Gc (C _ d);rw[ifT o,f q t,ifF K,L];refine(?_:∃w:Int,cond (decide (m<rv ms (rfs ms i)[q])) _ _=_∧_)
    by_cases v:m<rv ms (rfs ms i)[q]
    ·rw[ifT v];exact nx _ (by omega) (by omega) (.inr rfl)
    ·rw[ifF v];exact nx _ (by omega) (by omega) (.inl rfl)
   ·rw[ifF o];obtain⟨j,b,B⟩:=u o;rw[f q t,f j (by omega)]at B
    have:=c j (by omega) b
    refine nx m (by omega) ?_ (.inl rfl)
    rw[Ss B];exact this
 rw[vT];exact G (len l) 0 0 (by omega) (by omega) (fun j b h=>absurd h (hX _)) (.inl rfl)
structure SS(ms B:D)(i:Nat)(S:D):Prop where
 sh:Sh2 S
 yes:∀j,j<i→Kn B (nmI ms j)→lk S (nmI ms j)=some (.int (RG ms j))
 un:∀j,j<i→¬Kn B (nmI ms j)→lk S (nmI ms j)=none
 no:∀x,(∀j,j<i→D.strEq (nmI ms j) x=false)→lk S x=none
theorem SS.zero{ms B:D}:SS ms B 0 Al:=⟨Sh2.empty,fun j l=>absurd l (hX _),fun j l=>absurd l (hX _),fun x _=>rfl⟩
def SR(ms B:D)(F:Int→D→D)(p:Nat):Prop:=∀(i:Nat) S,p≤i→i≤len ms→SS ms B i S→∃a,F i S=.row [.int 1,a]∧SS ms B (len ms) a
section
variable {B R v2 v3 v5 v6 v8:D}{v4 v7:Bool}
theorem SS.none{i:Nat}{S:D}(J:GP ms (len ms) M dp)(hi:i<len ms)(l:SS ms B i S)(hn:¬Kn B (nmI ms i)):SS ms B (i+1) S:=by
 have I:∀j,j<i→D.strEq (nmI ms j) (nmI ms i)=false:=fun j r=>J.dist j i r hi
 refine⟨l.sh,fun j r t=>?_,fun j r t=>?_,fun x hx=>l.no x fun j r=>hx j (by omega)⟩
 ·rcases hH j i with h|h
  ·exact l.yes j h t
  ·have:j=i:=by omega
   subst this;exact absurd t hn
 ·rcases hH j i with h|h
  ·exact l.un j h t
  ·have:j=i:=by omega
   subst this;exact l.no _ I
theorem SS.some{i:Nat}{S:D}(hG:GP ms (len ms) M dp)(hi:i<len ms)(r:SS ms B i S)(hk:Kn B (nmI ms i)):SS ms B (i+1) (ad S (.row [nmI ms i,.int (RG ms i)])):=by
 have I:∀j,j<i→D.strEq (nmI ms j) (nmI ms i)=false:=fun j t=>hG.dist j i t hi
 have l:∀j,j<i→D.strEq (nmI ms i) (nmI ms j)=false:=fun j t=>by rw[AQ];exact I j t
 have fl:∀x,D.strEq (nmI ms i) x=false→lk (ad S (.row [nmI ms i,.int (RG ms i)])) x=lk S x:=fun x hx=>by
  rw[HS r.sh];cases lk S x with
  |some u=>rfl
  |none=>simp[hx]
 refine⟨r.sh.ad,fun j t hk=>?_,fun j t J=>?_,fun x hx=>?_⟩
 ·rcases hH j i with h|h
  ·rw[fl _ (l j h)];exact r.yes j h hk
  ·have:j=i:=by omega
   subst this;rw[HS r.sh,r.no _ I];simp[BZ]
 ·rcases hH j i with h|h
  ·rw[fl _ (l j h)];exact r.un j h J
  ·have:j=i:=by omega
   subst this;exact absurd hk J
 ·rw[fl x (hx i (by omega))];exact r.no x fun j t=>hx j (by omega)
theorem jr(a:0<len v6)(hR:RS ms B (len ms) R){i:Nat}(hi:i<len ms):HL v2 v3 (.bool v4) v5 v6 (.bool v7) v8 R (nmI ms i)=(if mIx [.str] B (.row [nmI ms i])<0 then .row [.int 1,.int 0,.int 9]else .row [.int 1,.int (rg ms i),.int 0]):=by
 rw[kC a];by_cases h:mIx [.str] B (.row [nmI ms i])<0
 ·rw[if_pos h,hR.un i hi (fun b=>b h)]
 ·rw[if_neg h,hR.yes i hi h]
theorem CD(a:GP ms (len ms) M dp)(A:len ms≤9)(C:0<len v6)(E:BT B)(hR:RS ms B (len ms) R)(e:∀j,j<len ms→Kn B (nmI ms j)→∀r∈rfs ms j,Kn B r){F G:Int→D→D}{p:Nat}(f:SR ms B G (p+1))(S:D)(u:∀i,F i S=ST ms v2 v3 v4 v5 v6 v7 v8 R F G i S) :
  ∀n (i:Nat),i+n=len ms→p≤i→SS ms B i S→∃s,F i S=.row [.int 1,s]∧SS ms B (len ms) s
 |0,i,h,J,b=>by
  have:i=len ms:=h;subst this;rw[u];unfold ST;rw[ifF (by omega)];exact⟨S,rfl,b⟩
 |n+1,i,h,J,b=>by
  have hi:i<len ms:=by omega
  have v:∀j,j<i→D.strEq (nmI ms j) (nmI ms i)=false:=fun j w=>a.dist j i w hi
  rw[u];unfold ST;have x:=jr (v2:=v2) (v3:=v3) (v4:=v4) (v5:=v5) (v7:=v7) (v8:=v8) C hR hi;have g:HL v2 v3 (.bool v4) v5 v6 (.bool v7) v8 R (cl ms i 0)=_:=x;rw[ifT (by omega),ifF (by omega),g,Az (by omega)]
  by_cases t:mIx [.str] B (.row [nmI ms i])<0
  ·rw[if_pos t,AJ];refine(?_:∃s,cond (decide ((9:Int)=0)) _ _=_∧_)
   rw[ifF (by decide)]
   exact CD a A C E hR e f S u n (i+1) (by omega) (by omega) (b.none a hi (fun K=>K t))
  ·rw[if_neg t,AJ];have k:Kn B (nmI ms i):=t;obtain⟨l,o,c⟩:=Qj (v0:=cl ms i 0) (a.fo i hi).ft;have d:Bg (cl ms i 0) (cl ms i 1)=.row [.int 1,l]:=o
   obtain⟨m,y,L⟩:=hZ a (S:=S) hi c fun r H=>by
    obtain⟨w,P,I,_⟩:=a.ref' hi H;have N:=e i hi k r H;have z:Kn B (nmI ms (ixI ms r)):=N.congr E.sh (by rw[AQ];exact I)
    rw[←Ri b.sh I];exact b.yes _ w z
   have q:O1 S (.int 0) (sl (.row [.int 1,l]) 1)=.row [.int 1,.int m]:=y;obtain⟨m0,m1,m2⟩:=Yj a hi A L;have O:=J3 a hi;rw[d,q];refine(?_:∃s,cond (decide (mIx [.str] S (.row [nmI ms i])<0)) (G ((i+1:Nat):Int) (ad S (.row [nmI ms i,.int (wrap .i64 (rg ms i+m))]))) _=_∧_)
   rw[ifT (LP (b.no _ v)),Aq (by omega) (by omega),←m2]
   exact f (i+1) _ (by omega) (by omega) (b.some a hi k)
section
variable (v2 v3 v5 v8:D)(v4 v7:Bool)
theorem Ac7(b:len ms≤9):SR ms B (fun i S=>Kw ms (.int i) v2 v3 (.bool v4) v5 v6 (.bool v7) v8 R S) 9:=by
 intro i S c d a;have:i=len ms:=by omega
 subst this;show ∃e,Kw _ _ _ _ _ _ _ _ _ _ _=_∧_
 rw[lq,ifF (by omega)];exact⟨S,rfl,a⟩
theorem sm9(c:GP ms (len ms) M dp)(b:len ms≤9)(d:0<len v6)(e:BT B)(hR:RS ms B (len ms) R)(a:∀j,j<len ms→Kn B (nmI ms j)→∀r∈rfs ms j,Kn B r):SR ms B (fun i S=>OR ms (.int i) v2 v3 (.bool v4) v5 v6 (.bool v7) v8 R S) 8:=fun i S f h g=>
 CD (v2:=v2) (v3:=v3) (v4:=v4) (v5:=v5) (v7:=v7) (v8:=v8) c b d e hR a (F:=fun i S=>OR ms (.int i) v2 v3 (.bool v4) v5 v6 (.bool v7) v8 R S) (G:=fun i S=>Kw ms (.int i) v2 v3 (.bool v4) v5 v6 (.bool v7) v8 R S) (Ac7 v2 v3 v5 v8 v4 v7 b) S (fun i=>pU ms i v2 v3 v4 v5 v6 v7 v8 R S) (len ms-i) i (by omega) f g
theorem sm8(b:GP ms (len ms) M dp)(c:len ms≤9)(d:0<len v6)(e:BT B)(hR:RS ms B (len ms) R)(a:∀j,j<len ms→Kn B (nmI ms j)→∀r∈rfs ms j,Kn B r):SR ms B (fun i S=>O4 ms (.int i) v2 v3 (.bool v4) v5 v6 (.bool v7) v8 R S) 7:=fun i S f h g=>
 CD (v2:=v2) (v3:=v3) (v4:=v4) (v5:=v5) (v7:=v7) (v8:=v8) b c d e hR a (F:=fun i S=>O4 ms (.int i) v2 v3 (.bool v4) v5 v6 (.bool v7) v8 R S) (G:=fun i S=>OR ms (.int i) v2 v3 (.bool v4) v5 v6 (.bool v7) v8 R S) (sm9 v2 v3 v5 v8 v4 v7 b c d e hR a) S (fun i=>sY ms i v2 v3 v4 v5 v6 v7 v8 R S) (len ms-i) i (by omega) f g
theorem sm7(b:GP ms (len ms) M dp)(c:len ms≤9)(d:0<len v6)(e:BT B)(hR:RS ms B (len ms) R)(a:∀j,j<len ms→Kn B (nmI ms j)→∀r∈rfs ms j,Kn B r):SR ms B (fun i S=>Oo ms (.int i) v2 v3 (.bool v4) v5 v6 (.bool v7) v8 R S) 6:=fun i S f h g=>
 CD (v2:=v2) (v3:=v3) (v4:=v4) (v5:=v5) (v7:=v7) (v8:=v8) b c d e hR a (F:=fun i S=>Oo ms (.int i) v2 v3 (.bool v4) v5 v6 (.bool v7) v8 R S) (G:=fun i S=>O4 ms (.int i) v2 v3 (.bool v4) v5 v6 (.bool v7) v8 R S) (sm8 v2 v3 v5 v8 v4 v7 b c d e hR a) S (fun i=>wE ms i v2 v3 v4 v5 v6 v7 v8 R S) (len ms-i) i (by omega) f g
theorem sm6(b:GP ms (len ms) M dp)(c:len ms≤9)(d:0<len v6)(e:BT B)(hR:RS ms B (len ms) R)(a:∀j,j<len ms→Kn B (nmI ms j)→∀r∈rfs ms j,Kn B r):SR ms B (fun i S=>Oy ms (.int i) v2 v3 (.bool v4) v5 v6 (.bool v7) v8 R S) 5:=fun i S f h g=>
 CD (v2:=v2) (v3:=v3) (v4:=v4) (v5:=v5) (v7:=v7) (v8:=v8) b c d e hR a (F:=fun i S=>Oy ms (.int i) v2 v3 (.bool v4) v5 v6 (.bool v7) v8 R S) (G:=fun i S=>Oo ms (.int i) v2 v3 (.bool v4) v5 v6 (.bool v7) v8 R S) (sm7 v2 v3 v5 v8 v4 v7 b c d e hR a) S (fun i=>Abw ms i v2 v3 v4 v5 v6 v7 v8 R S) (len ms-i) i (by omega) f g
theorem sm5(b:GP ms (len ms) M dp)(c:len ms≤9)(d:0<len v6)(e:BT B)(hR:RS ms B (len ms) R)(a:∀j,j<len ms→Kn B (nmI ms j)→∀r∈rfs ms j,Kn B r):SR ms B (fun i S=>N8 ms (.int i) v2 v3 (.bool v4) v5 v6 (.bool v7) v8 R S) 4:=fun i S f h g=>
 CD (v2:=v2) (v3:=v3) (v4:=v4) (v5:=v5) (v7:=v7) (v8:=v8) b c d e hR a (F:=fun i S=>N8 ms (.int i) v2 v3 (.bool v4) v5 v6 (.bool v7) v8 R S) (G:=fun i S=>Oy ms (.int i) v2 v3 (.bool v4) v5 v6 (.bool v7) v8 R S) (sm6 v2 v3 v5 v8 v4 v7 b c d e hR a) S (fun i=>rU ms i v2 v3 v4 v5 v6 v7 v8 R S) (len ms-i) i (by omega) f g
theorem sm4(b:GP ms (len ms) M dp)(c:len ms≤9)(d:0<len v6)(e:BT B)(hR:RS ms B (len ms) R)(a:∀j,j<len ms→Kn B (nmI ms j)→∀r∈rfs ms j,Kn B r):SR ms B (fun i S=>OW ms (.int i) v2 v3 (.bool v4) v5 v6 (.bool v7) v8 R S) 3:=fun i S f h g=>
 CD (v2:=v2) (v3:=v3) (v4:=v4) (v5:=v5) (v7:=v7) (v8:=v8) b c d e hR a (F:=fun i S=>OW ms (.int i) v2 v3 (.bool v4) v5 v6 (.bool v7) v8 R S) (G:=fun i S=>N8 ms (.int i) v2 v3 (.bool v4) v5 v6 (.bool v7) v8 R S) (sm5 v2 v3 v5 v8 v4 v7 b c d e hR a) S (fun i=>oO ms i v2 v3 v4 v5 v6 v7 v8 R S) (len ms-i) i (by omega) f g
theorem sm3(b:GP ms (len ms) M dp)(c:len ms≤9)(d:0<len v6)(e:BT B)(hR:RS ms B (len ms) R)(a:∀j,j<len ms→Kn B (nmI ms j)→∀r∈rfs ms j,Kn B r):SR ms B (fun i S=>OM ms (.int i) v2 v3 (.bool v4) v5 v6 (.bool v7) v8 R S) 2:=fun i S f h g=>
 CD (v2:=v2) (v3:=v3) (v4:=v4) (v5:=v5) (v7:=v7) (v8:=v8) b c d e hR a (F:=fun i S=>OM ms (.int i) v2 v3 (.bool v4) v5 v6 (.bool v7) v8 R S) (G:=fun i S=>OW ms (.int i) v2 v3 (.bool v4) v5 v6 (.bool v7) v8 R S) (sm4 v2 v3 v5 v8 v4 v7 b c d e hR a) S (fun i=>na ms i v2 v3 v4 v5 v6 v7 v8 R S) (len ms-i) i (by omega) f g
theorem sm2(b:GP ms (len ms) M dp)(c:len ms≤9)(d:0<len v6)(e:BT B)(hR:RS ms B (len ms) R)(a:∀j,j<len ms→Kn B (nmI ms j)→∀r∈rfs ms j,Kn B r):SR ms B (fun i S=>NY ms (.int i) v2 v3 (.bool v4) v5 v6 (.bool v7) v8 R S) 1:=fun i S f h g=>
 CD (v2:=v2) (v3:=v3) (v4:=v4) (v5:=v5) (v7:=v7) (v8:=v8) b c d e hR a (F:=fun i S=>NY ms (.int i) v2 v3 (.bool v4) v5 v6 (.bool v7) v8 R S) (G:=fun i S=>OM ms (.int i) v2 v3 (.bool v4) v5 v6 (.bool v7) v8 R S) (sm3 v2 v3 v5 v8 v4 v7 b c d e hR a) S (fun i=>ny ms i v2 v3 v4 v5 v6 v7 v8 R S) (len ms-i) i (by omega) f g
theorem jk(c:GP ms (len ms) M dp)(d:len ms≤9)(e:0<len v6)(f:BT B)(hR:RS ms B (len ms) R)(b:∀j,j<len ms→Kn B (nmI ms j)→∀r∈rfs ms j,Kn B r){a st:D}:∃S,aZ a ms st v2 v3 (.bool v4) v5 v6 (.bool v7) v8 R=.row [.int 1,S]∧SS ms B (len ms) S:=by
 rw[oJ];exact CD (v2:=v2) (v3:=v3) (v4:=v4) (v5:=v5) (v7:=v7) (v8:=v8) c d e f hR b (F:=fun i S=>Wa ms (.int i) v2 v3 (.bool v4) v5 v6 (.bool v7) v8 R) (G:=fun i S=>NY ms (.int i) v2 v3 (.bool v4) v5 v6 (.bool v7) v8 R S) (sm2 v2 v3 v5 v8 v4 v7 c d e f hR b) Al (fun i=>Aa8 ms i v2 v3 v4 v5 v6 v7 v8 R) (len ms) 0 (by omega) (R2 _) .zero
end
end
end
end
end Mz
set_option maxRecDepth 4000
namespace Mz
open Go Go.AE
section
variable [Ao]
theorem QD{a b st k:D}(h:len b≤1000000):BY a b st k (.int (len b:Int))=.row [.int 1,.int (ixN b (len b) k)]:=by
 rw[fO];refine find (F:=fun j=>Jm k (.int (len b:Int)) (.int (j:Nat)) a b st) (bad:=fun i=>D.strEq (nmI b i) k) (n:=len b) ?_ ?_
 ·intro j c;refine(?_:Jm k (.int (len b:Int)) (.int ((j:Nat):Int)) a b st=_);rw[VK,ifT (by omega),ifF (by omega),ifT (by omega),Az (by omega)];rfl
 ·refine(?_:Jm k (.int (len b:Int)) (.int ((len b:Nat):Int)) a b st=_);rw[VK,ifF (by omega)]
def Mo(A:List D)(r:D):Bool:=A.any fun a=>D.strEq a r
def ddA:List D→List D→List D
 |A,[]=>A
 |A,r::L=>cond (Mo A r) (ddA A L) (ddA (A++[r]) L)
theorem Qg:∀(L:List D)(A K:List D),ddA A (L++K)=ddA (ddA A L) K
 |[],A,K=>rfl
 |r::L,A,K=>by
  show cond _ _ _=ddA (cond _ _ _) K;cases Mo A r
  ·exact Qg L _ K
  ·exact Qg L A K
theorem FL:∀(L A:List D),(ddA A L).length≤A.length+L.length
 |[],A=>R2 _
 |r::L,A=>by
  show(cond _ _ _:List D).length≤_;cases Mo A r
  ·have:=FL L (A++[r]);rw[pc]at this;simp only[y0,n0,Ae6]at *;omega
  ·have:=FL L A;simp only[Aer,n0]at *;omega
theorem DB:∀(L A:List D){d:D},d∈ddA A L→d∈A∨d∈L
 |[],A,d,h=>.inl h
 |r::L,A,d,h=>by
  have h':d∈(cond (Mo A r) (ddA A L) (ddA (A++[r]) L)):=h;cases a:Mo A r with
  |false=>
   rw[a]at h';rcases DB L _ h' with g|g
   ·rcases Aes.1 g with q|q
    ·exact .inl q
    ·rw[Aeu.1 q];exact .inr Ae7
   ·exact .inr (Ae1 _ g)
  |true=>
   rw[a]at h';exact(DB L _ h').imp id (Ae1 _)
theorem Fu:∀(L A:List D),(∀r∈A,r∈ddA A L)∧∀r∈L,∃d∈ddA A L,D.strEq d r=true
 |[],A=>⟨fun r h=>h,fun r h=>by cases h⟩
 |r::L,A=>by
  show(∀x∈A,x∈(cond (Mo A r) (ddA A L) (ddA (A++[r]) L)))∧∀x∈r::L,∃d∈(cond (Mo A r) (ddA A L) (ddA (A++[r]) L)),_
  cases g:Mo A r with
  |false=>
   obtain⟨b,f⟩:=Fu L (A++[r]);rw[y0];refine⟨fun x c=>b x (List.mem_append_left _ c),fun x c=>?_⟩
   rcases i0.1 c with e|e
   ·subst e;exact⟨x,b x (Afc _ (Aeu.2 rfl)),BZ⟩
   ·exact f x e
  |true=>
   obtain⟨b,f⟩:=Fu L A;rw[Aer];refine⟨b,fun x c=>?_⟩
   rcases i0.1 c with e|e
   ·subst e;obtain⟨a,i,j⟩:=List.any_eq_true.1 g;exact⟨a,b a i,j⟩
   ·exact f x e
section
variable {v v0 v3 nm:D}{v1 v4:Bool}{i:Int}
theorem QC{A:List D}{j:Nat}(a:v0.rows=nms A)(d:A.length≤100000)(e:j<len v3):∀n k (b:Bool),k+n=A.length→Pa v0 (.bool v1) (.int i) v3 (.bool v4) (.int (j:Nat)) (.bool b) (.int (k:Nat)) nm v =
  cond (b||Mo (A.drop k) (cl v3 j 0)) (HK v0 (.bool v1) (.int i) v3 (.bool v4) (.int (wrap .i64 ((j:Nat)+1))) nm v) (HK (ad v0 (.row [(cl v3 j 0)])) (.bool false) (.int i) v3 (.bool v4) (.int (wrap .i64 ((j:Nat)+1))) nm v)
 |0,k,b,h=>by
  have g:len v0=A.length:=by unfold len;rw[a];simp[nms]
  have c:A.drop k=[]:=List.drop_eq_nil_of_le (by omega)
  rw[eX,ifF (by omega),c]
  cases b with
  |true=>rfl
  |false=>
   rw[y0,ifF (by omega),ifT (by omega),ifT (by omega)];rfl
 |n+1,k,b,h=>by
  have g:len v0=A.length:=by unfold len;rw[a];simp[nms]
  have f:k<A.length:=by omega
  have l:cl v0 k 0=A[k]:=E8 a f;have c:A.drop k=A[k]::A.drop (k+1):=List.drop_eq_getElem_cons f;rw[eX,ifT (by omega),Az (by omega),QC a d e n (k+1) true (by omega),QC a d e n (k+1) _ (by omega),l,c]
  cases b with
  |true=>rfl
  |false=>
   rw[y0,ifF (by omega),ifF (by omega),ifT (by omega)];rfl
theorem PZ{W:List D}(b:v3.rows=nms W)(g:W.length≤1000):∀n j (A:List D) (v0:D) (v1:Bool),j+n=W.length→v0.rows=nms A→A.length+n≤10000→∃a c,HK v0 (.bool v1) (.int i) v3 (.bool v4) (.int (j:Nat)) nm v=R6 a (.bool c) (.int (wrap .i64 (i+1))) nm v∧a.rows=nms (ddA A (W.drop j))
 |0,j,A,v0,v1,h,d,l=>by
  have m:len v3=W.length:=by unfold len;rw[b];simp[nms]
  have e:W.drop j=[]:=List.drop_eq_nil_of_le (by omega)
  rw[fM,ifF (by omega),e]
  exact⟨v0,v1,rfl,d⟩
 |n+1,j,A,v0,v1,h,d,l=>by
  have m:len v3=W.length:=by unfold len;rw[b];simp[nms]
  have k:j<W.length:=by omega
  have o:cl v3 j 0=W[j]:=E8 b k;have e:W.drop j=W[j]::W.drop (j+1):=List.drop_eq_getElem_cons k;have p:=QC (v3:=v3) (v1:=v1) (v4:=v4) (i:=i) (nm:=nm) (v:=v) (j:=j) d (by omega) (by omega) A.length 0 false (by omega)
  have f:Pa v0 (.bool v1) (.int i) v3 (.bool v4) (.int (j:Nat)) (.bool false) (.int 0) nm v=_:=p;rw[fM,ifT (by omega),f,o,e,Az (by omega),List.drop_zero,Bool.false_or]
  refine(?_:∃(a:D) (c:Bool),_∧a.rows=nms (cond (Mo A W[j]) (ddA A (W.drop (j+1))) (ddA (A++[W[j]]) (W.drop (j+1)))))
  cases Mo A W[j]with
  |true=>rw[Aer,Aer];exact PZ b g n (j+1) A v0 v1 (by omega) d (by omega)
  |false=>
   rw[y0,y0];exact PZ b g n (j+1) (A++[W[j]]) _ false (by omega) (Lx d) (by rw[pc];simp only[n0,Ae6];omega)
end
theorem Kc{v nm:D}(hv:FT v):∃L b,BX nm v=.row [.int 1,L,.bool b]∧L.rows=nms (ddA [] (RF v (len v))):=by
 have J:∀n i (a:D) (c:Bool),i+n=len v→a.rows=nms (ddA [] (RF v i))→∃L b,R6 a (.bool c) (.int (i:Nat)) nm v=.row [.int 1,L,.bool b]∧L.rows=nms (ddA [] (RF v (len v))):=by
  intro n
  induction n with
  |zero=>
   intro i a c h o;have:i=len v:=h;subst this;rw[fS,ifF (by omega)]
   exact⟨a,c,rfl,o⟩
  |succ n ih=>
   intro i a c h o;have few:=hv.few;have hi:i<len v:=by omega
   have K:=hv.len12 i hi;have M:=Fc hv i (by omega)
   have p:=FL (RF v i) []
   have N:(RFi v i).length≤10:=by
    unfold RFi
    repeat' split
    all_goals simp
    all_goals omega
   obtain⟨d,g⟩:=hv.i1 i hi;obtain⟨O,A⟩:=hv.i2 i hi;obtain⟨P,B⟩:=hv.b3 i hi;obtain⟨Q,C⟩:=hv.b4 i hi;obtain⟨R,E⟩:=hv.i5 i hi;obtain⟨S,F⟩:=hv.i6 i hi;obtain⟨T,G⟩:=hv.i7 i hi;obtain⟨r,e⟩:=hv.i13 i hi;obtain⟨s,f⟩:=hv.i14 i hi;have U:kd v i=d:=by unfold kd;rw[g];rfl
   have t:(cl v i 1).toInt=d:=by rw[g];rfl
   have H:∀(v3:D)(v4:Bool),v3.rows=nms (RFi v i)→∃L b,HK a (.bool c) (.int (i:Nat)) v3 (.bool v4) (.int 0) nm v=.row [.int 1,L,.bool b]∧L.rows=nms (ddA [] (RF v (len v))):=fun v3 v4 u=>by
    obtain⟨w,x,V,X⟩:=PZ (v4:=v4) (i:=(i:Nat)) (nm:=nm) (v:=v) (v3:=v3) (W:=RFi v i) u (by omega) (RFi v i).length 0 (ddA [] (RF v i)) a c (by omega) o (by simp only[Ae6]at p;omega)
    have y:HK a (.bool c) (.int (i:Nat)) v3 (.bool v4) (.int 0) nm v=_:=V;rw[y,Az (by omega)]
    refine ih (i+1) w x (by omega) ?_
    rw[X,List.drop_zero,RF,Qg]
   have t2:∀(v3:D)(v4:Bool),d≠9→v3.rows=nms (RFi v i)→∃L b,KU a (.bool c) (.int (i:Nat)) v3 (.bool v4) (.int 0) nm v (cl v i 0) (cl v i 1) (cl v i 2) (cl v i 3) (cl v i 4) (cl v i 5) (cl v i 6) (cl v i 7) (cl v i 8) (cl v i 9) (cl v i 10) (cl v i 11) (cl v i 12) (cl v i 13) (cl v i 14)=.row [.int 1,L,.bool b]∧L.rows=nms (ddA [] (RF v (len v))):=fun v3 v4 k u=>by
    rw[g,A,B,C,E,F,G,e,f,aG,ifF k];exact H v3 v4 u
   have t9:d=9→∀m j (v3:D) (v4:Bool),j+m=len (cl v i 12)→v3.rows=nms ((List.range j).map fun(q:Nat)=>cl (cl v i 12) q 2)→∃L b,KU a (.bool c) (.int (i:Nat)) v3 (.bool v4) (.int (j:Nat)) nm v (cl v i 0) (.int d) (.int O) (.bool P) (.bool Q) (.int R) (.int S) (.int T) (cl v i 8) (cl v i 9) (cl v i 10) (cl v i 11) (cl v i 12) (.int r) (.int s)=.row [.int 1,L,.bool b]∧L.rows=nms (ddA [] (RF v (len v))):=by
    intro k m
    induction m with
    |zero=>
     intro j v3 v4 I l;have:j=len (cl v i 12):=I;subst this;rw[aG,ifT k,ifF (by omega)]
     refine H v3 v4 ?_;rw[RFi,if_neg (by omega),if_pos (by omega)];exact l
    |succ m z=>
     intro j v3 v4 I l;have Y:len v3=j:=by unfold len;rw[l];simp[nms]
     rw[aG,ifT k,ifT (by omega),ifF (by omega),ifT (by omega),Az (by omega)]
     refine z (j+1) _ false (by omega) ?_
     rw[Lx l,List.range_succ,List.map_append];rfl
   have st:kd v i=7∨kd v i=8∨kd v i=12→(ad Al (.row [(cl v i 9)])).rows=nms (RFi v i):=fun Z=>by
    rw[RFi,if_pos Z];rfl
   rw[fS,ifT (by omega),ifF (by omega),t]
   by_cases k7:d=7
   ·rw[ifT k7];exact t2 _ false (by omega) (st (by omega))
   rw[ifF k7];by_cases k8:d=8
   ·rw[ifT k8];exact t2 _ false (by omega) (st (by omega))
   rw[ifF k8];by_cases k12:d=12
   ·rw[ifT k12];exact t2 _ false (by omega) (st (by omega))
   rw[ifF k12];by_cases k9:d=9
   ·rw[g,A,B,C,E,F,G,e,f];exact t9 k9 (len (cl v i 12)) 0 Bq true (by omega) rfl
   ·exact t2 Bq true k9 (by rw[RFi,if_neg (by omega),if_neg (by omega)];rfl)
 rw[qj];exact J (len v) 0 Bq true (by omega) rfl
section
variable {ms M a st:D}{dp:Nat→Int}
def dds(ms:D)(i:Nat):List D:=ddA [] (rfs ms i)
theorem gM(g:GP ms (len ms) M dp){i:Nat}(hi:i<len ms){m:Int}(h:GB (rv ms) (dds ms i) m):GB (rv ms) (rfs ms i) m:=by
 obtain⟨c1,c2⟩:=Fu (rfs ms i) [];refine⟨h.nn,fun r b=>?_,h.at'.imp id fun⟨r,b,e⟩=>?_⟩
 ·obtain⟨d,c,f⟩:=c2 r b;rw[←Ss f];exact h.le d c
 ·rcases DB _ _ b with q|q
  ·cases q
  ·exact⟨r,q,e⟩
def LR(ms:D)(P:D→D)(n:Nat):Prop:=∀i:Nat,i≤n→i<len ms→P (.int (i:Nat))=.row [.int 1,.int (RG ms i)]
theorem Ado(d:GP ms (len ms) M dp):LR ms (fun x=>Rw a ms st x) 0:=by
 intro i k hi;have j:i=0:=by omega
 subst j;show Rw a ms st (.int (0:Nat))=_;obtain⟨L,b,f,c⟩:=Kc (nm:=nmI ms 0) (d.fo 0 hi).ft;have g:RF (fsI ms 0) (len (fsI ms 0))=[]:=Fl d hi;have l:len L=0:=by show L.rows.length=0;rw[c,g];rfl
 have e:BX (cl ms (0:Nat) 0) (cl ms (0:Nat) 1)=.row [.int 1,L,.bool b]:=f;have h:Lh (cl ms (0:Nat) 0) (cl ms (0:Nat) 1)=.row [.int 1,.int (rg ms 0)]:=bu (d.fo 0 hi).ft;have m:=J3 d hi;rw[mh,ifF (by omega),ifT (by omega),e,AJ]
 show Zc (.int (0:Nat)) L (.bool b) a ms st=_;rw[ul,ifF (by omega),ifF (by omega),ifT (by omega),h,AJ,V9 d hi,Fl d hi]
 show D.row [.int 1,.int (wrap .i64 (rg ms 0+0))]=D.row [.int 1,.int (rg ms 0+0)];rw[Aq (by omega) (by omega)]
theorem DQ(g:GP ms (len ms) M dp)(Q:len ms≤9){P F:D→D}{F1:D→D→D→D→D→D}{n:Nat}(R:LR ms P n)
 (y:∀d:Int,F (.int d)=cond (d<0) (.row []) (cond (d<len ms) (cond ((sl (BX (cl ms d 0) (cl ms d 1)) 0).toInt=1) (F1 (.int d) (sl (BX (cl ms d 0) (cl ms d 1)) 1) (sl (BX (cl ms d 0) (cl ms d 1)) 2) (.int 0) (.int 0)) (.row [])) (.row [])))
 (G:∀(H:Int)(I:D)(J:Bool)(d K:Int),F1 (.int H) I (.bool J) (.int d) (.int K)=LT a ms st P F1 H I J d K):LR ms F (n+1):=by
 intro i S hi;obtain⟨L,b,z,o⟩:=Kc (nm:=nmI ms i) (g.fo i hi).ft;have v:BX (cl ms i 0) (cl ms i 1)=.row [.int 1,L,.bool b]:=z;have A:Lh (cl ms i 0) (cl ms i 1)=.row [.int 1,.int (rg ms i)]:=bu (g.fo i hi).ft;have T:=J3 g hi;have c:L.rows=nms (dds ms i):=o;have N:len L=(dds ms i).length:=by show L.rows.length=_;rw[c];simp[nms]
 have U:=Fc (g.fo i hi).ft _ (R2 _);have few:=(g.fo i hi).ft.few;have B:=FL (rfs ms i) [];have V:(dds ms i).length≤160:=by unfold dds;unfold rfs at *;simp only[Ae6]at B;omega
 have C:∀j (f:j<(dds ms i).length),cl L j 0=(dds ms i)[j]:=fun j f=>E8 c f
 have W:∀k q (m:Int),q+k=len L→0≤m→(∀j (f:j<(dds ms i).length),j<q→rv ms (dds ms i)[j]≤m)→(m=0∨∃r∈dds ms i,rv ms r=m)→F1 (.int (i:Nat)) L (.bool b) (.int m) (.int (q:Nat))=.row [.int 1,.int (RG ms i)]:=by
  intro k
  induction k with
  |zero=>
   intro q m h y p s
   have w:GB (rv ms) (dds ms i) m:=⟨y,fun r E=>by
    obtain⟨j,f,rfl⟩:=sd E;exact p j f (by omega),s⟩
   obtain⟨m0,m1,m2⟩:=Yj g hi Q (gM g hi w);rw[G];unfold LT;rw[ifF (by omega),ifF (by omega),ifT (by omega),A,AJ]
   show D.row [.int 1,.int (wrap .i64 (rg ms i+m))]=_;rw[Aq (by omega) (by omega),m2]
  |succ k ih=>
   intro q m h y p s;have O:q<(dds ms i).length:=by omega
   have l:(dds ms i)[q]∈dds ms i:=Aet O;have t:(dds ms i)[q]∈rfs ms i:=(DB _ _ l).elim (fun q=>by cases q) id
   obtain⟨f,X,_,_⟩:=g.ref' hi t
   have nx:∀u,m≤u→rv ms (dds ms i)[q]≤u→(u=m∨rv ms (dds ms i)[q]=u)→F1 (.int (i:Nat)) L (.bool b) (.int u) (.int ((q+1:Nat):Int))=.row [.int 1,.int (RG ms i)]:=fun u w E Y=>by
    refine ih (q+1) u (by omega) (by omega) (fun j f Z=>?_) ?_
    ·rcases hH j q with x|x
     ·have:=p j f x;omega
     ·have:j=q:=by omega
      subst this;exact E
    ·rcases Y with e|e
     ·subst e;exact s
     ·exact .inr ⟨_,l,e⟩
   have hp:P (sl (.row [.int 1,.int (ixI ms (dds ms i)[q]:Nat)]) 1)=.row [.int 1,.int (rv ms (dds ms i)[q])]:=R _ (by omega) (by omega)
   rw[G];unfold LT;rw[ifT (by omega),ifF (by omega),QD (by omega),C q O,X,AJ,hp,AJ,Az (by omega)]
   refine(?_:cond (decide (m<rv ms (dds ms i)[q])) _ _=_);by_cases w:m<rv ms (dds ms i)[q]
   ·rw[ifT w];exact nx _ (by omega) (by omega) (.inr rfl)
   ·rw[ifF w];exact nx _ (by omega) (by omega) (.inl rfl)
 rw[y,ifF (by omega),ifT (by omega),v,AJ]
 exact W (len L) 0 0 (by omega) (by omega) (fun j f h=>absurd h (hX _)) (.inl rfl)
theorem Aci(f:GP ms (len ms) M dp)(g:len ms≤9):LR ms (fun x=>V5 a ms st x) 1:=
 DQ (a:=a) (st:=st) f g (P:=fun x=>Rw a ms st x) (F1:=fun x c d b e=>WJ x c d b e a ms st) (Ado f) (fun b=>yM a ms st b) (fun h c d b e=>qK h c d b e a ms st)
theorem Ael(f:GP ms (len ms) M dp)(g:len ms≤9):LR ms (fun x=>VU a ms st x) 2:=
 DQ (a:=a) (st:=st) f g (P:=fun x=>V5 a ms st x) (F1:=fun x c d b e=>Wp x c d b e a ms st) (Aci f g) (fun b=>nK a ms st b) (fun h c d b e=>qN h c d b e a ms st)
theorem Ab9(f:GP ms (len ms) M dp)(g:len ms≤9):LR ms (fun x=>Vp a ms st x) 3:=
 DQ (a:=a) (st:=st) f g (P:=fun x=>VU a ms st x) (F1:=fun x c d b e=>WS x c d b e a ms st) (Ael f g) (fun b=>mr a ms st b) (fun h c d b e=>uK h c d b e a ms st)
theorem Ab5(f:GP ms (len ms) M dp)(g:len ms≤9):LR ms (fun x=>Vh a ms st x) 4:=
 DQ (a:=a) (st:=st) f g (P:=fun x=>Vp a ms st x) (F1:=fun x c d b e=>Wh x c d b e a ms st) (Ab9 f g) (fun b=>oo a ms st b) (fun h c d b e=>nr h c d b e a ms st)
theorem Ad8(f:GP ms (len ms) M dp)(g:len ms≤9):LR ms (fun x=>Wi a ms st x) 5:=
 DQ (a:=a) (st:=st) f g (P:=fun x=>Vh a ms st x) (F1:=fun x c d b e=>Vl x c d b e a ms st) (Ab5 f g) (fun b=>l4 a ms st b) (fun h c d b e=>yr h c d b e a ms st)
theorem Ack(f:GP ms (len ms) M dp)(g:len ms≤9):LR ms (fun x=>Wo a ms st x) 6:=
 DQ (a:=a) (st:=st) f g (P:=fun x=>Wi a ms st x) (F1:=fun x c d b e=>WU x c d b e a ms st) (Ad8 f g) (fun b=>vz a ms st b) (fun h c d b e=>xy h c d b e a ms st)
theorem Adr(f:GP ms (len ms) M dp)(g:len ms≤9):LR ms (fun x=>Wb a ms st x) 7:=
 DQ (a:=a) (st:=st) f g (P:=fun x=>Wo a ms st x) (F1:=fun x c d b e=>WP x c d b e a ms st) (Ack f g) (fun b=>zu a ms st b) (fun h c d b e=>pE h c d b e a ms st)
theorem Aee(f:GP ms (len ms) M dp)(g:len ms≤9):LR ms (fun x=>NU a ms st x) 8:=
 DQ (a:=a) (st:=st) f g (P:=fun x=>Wb a ms st x) (F1:=fun x c d b e=>Vg x c d b e a ms st) (Adr f g) (fun b=>Aaq a ms st b) (fun h c d b e=>xh h c d b e a ms st)
theorem ju(b:GP ms (len ms) M dp)(c:len ms≤9){i:Nat}(hi:i<len ms):NU a ms st (.int (i:Nat))=.row [.int 1,.int (RG ms i)]:=Aee b c i (by omega) hi
end
end
end Mz
namespace Mz
open Go Go.AE
section
variable [Ao]
theorem Ab1{v:D}(h:∀i,i<len v→EX v i){n:Nat}(b:n≤len v):DN v n:=fun j k a c=>(h k (by omega)).new j a
theorem Qx{v nm:D}{i:Nat}(h:0≤ixM (AK v i) nm):∀n,i≤n→ixM (AK v n) nm=ixM (AK v i) nm∧(∀c,cl (AK v n) (ixM (AK v i) nm) c=cl (AK v i) (ixM (AK v i) nm) c)∧len (AK v i)≤len (AK v n)
 |0,d=>by
  have:i=0:=by omega
  subst this;exact⟨rfl,fun _=>rfl,R2 _⟩
 |n+1,d=>by
  by_cases e:i=n+1
  ·subst e;exact⟨rfl,fun _=>rfl,R2 _⟩
  ·obtain⟨a,b,f⟩:=Qx h n (by omega)
   have j:ixM (AK v i) nm<len (AK v i):=by
    rcases Eh (v:=v) (nm:=nm) i with⟨g,_⟩|⟨_,_,_,_,_,g,_⟩
    ·exact absurd h (by unfold ixM;omega)
    ·exact g
   rw[AK];cases Fe (kd v n)with
   |false=>exact⟨a,b,f⟩
   |true=>
    simp only[Aer];refine⟨?_,fun c=>?_,by rw[B4];omega⟩
    ·show mIx [.str] _ _=_;rw[ME (Gd (v:=v) n)];have:mIx [.str] (AK v n) (.row [nm])=ixM (AK v i) nm:=a;rw[this,if_pos h]
    ·rw[GH h,if_neg (by omega)];exact b c
theorem SZ.up{v t:D}{base:Int}{i n:Nat}(h:SZ v t base i)(r:i≤n):SZ v t base n:=by
 refine⟨h.lo,h.hi,h.few,h.terms,fun j l=>?_,fun j l=>?_,h.run⟩
 ·have:=h.known j l;rw[(Qx this n r).1];exact this
 ·have J:=h.known j l;obtain⟨h1,I,_⟩:=Qx J n r;obtain⟨r1,r2,r3⟩:=h.right j l;unfold RO loM hiM at *;rw[h1,I 1,I 2];exact⟨r1,r2,r3⟩
theorem S5{n:Nat}:∀k i (x:Int) (a:D) (b:Bool),i+k=n→n≤100→len a=i→0≤x→x<4611686018427387904→∃l f,SN (.int x) (.int (n:Nat)) a (.bool b) (.int (i:Nat))=.row [.int 1,l,.bool f,.bool (decide (x/128^k=0))]∧len l=n
 |0,i,x,a,b,h,d,g,e,j=>by
  rw[eR,ifF (by omega)]
  refine⟨a,b,?_,by omega⟩
  rw[show(128:Int)^0=1 from rfl,Int.ediv_one]
 |k+1,i,x,a,b,h,d,g,e,j=>by
  have m:x/128/128^k=x/128^(k+1):=by
   rw[Int.ediv_ediv_of_nonneg (by decide),Int.pow_succ,Int.mul_comm]
  rw[eR,ifT (by omega),Az (by omega),IW (by decide) e (by omega),←m]
  by_cases c:(i:Int)<wrap .i64 ((n:Nat)-1)
  ·rw[ifT c,ifT (by omega)]
   exact S5 k (i+1) (x/128) _ false (by omega) d (by rw[B4];omega) (by omega) (by omega)
  ·rw[ifF c,ifT (by omega)]
   exact S5 k (i+1) (x/128) _ false (by omega) d (by rw[B4];omega) (by omega) (by omega)
theorem UD{n:Nat}{x:Int}(a:n≤100)(b:0≤x)(c:x<4611686018427387904):∃l d,OI (.int x) (.int (n:Nat))=.row [.int 1,l,.bool d,.bool (decide (x/128^n=0))]∧len l=n:=by
 rw[ui];exact S5 n 0 x Bq true (by omega) a rfl b c
theorem Mp{x:Int}(e:0≤x)(f:x<34359738368){X:D}:∀k n (a:D) (b:Bool),n+k=6→1≤len a→len a≤n→cl a 0 0=X→∃l g,Jz (.int x) a (.bool b) (.int (n:Nat))=.row [.int 1,l,.bool g]∧0<len l∧cl l 0 0=X
 |0,n,a,b,h,i,j,d=>by
  rw[Vr,ifT (by omega)];exact⟨a,b,rfl,by omega,d⟩
 |k+1,n,a,b,h,i,j,d=>by
  obtain⟨l,g,m,_⟩:=UD (n:=n) (x:=x) (by omega) e (by omega)
  rw[Vr,ifF (by omega),ifF (by omega),ifT f,m,Az (by omega)]
  refine(?_:∃p o,cond (decide ((1:Int)=1)) (cond (decide (x/128^n=0)) _ _) _=_∧_∧_)
  rw[ifT rfl];by_cases c:x/128^n=0
  ·rw[ifT c,ifT (by omega)]
   exact Mp e f k (n+1) _ false (by omega) (by rw[B4];omega) (by rw[B4];omega) (by rw[GH (by decide),if_neg (by omega)];exact d)
  ·rw[ifF c];exact Mp e f k (n+1) a b (by omega) i (by omega) d
theorem Jx{x:Int}{n:Nat}{b:Bool}(a:0≤x)(d:x<34359738368)(f:n≤5)(c:¬x/128^n=0):Jz (.int x) Bq (.bool b) (.int (n:Nat))=Jz (.int x) Bq (.bool b) (.int ((n+1:Nat):Int)):=by
 obtain⟨l,g,e,_⟩:=UD (n:=n) (x:=x) (by omega) a (by omega)
 rw[Vr,ifF (by omega),ifF (by omega),ifT d,e,Az (by omega)]
 refine(?_:cond (decide ((1:Int)=1)) (cond (decide (x/128^n=0)) _ _) _=_);rw[ifT rfl,ifF c]
theorem I5{x:Int}{n:Nat}{b:Bool}(f:0≤x)(g:x<34359738368)(r:1≤n)(h:n≤5)(c:x/128^n=0):∃l d,Jz (.int x) Bq (.bool b) (.int (n:Nat))=.row [.int 1,l,.bool d]∧0<len l∧len (cl l 0 0)=n:=by
 obtain⟨l,d,i,a⟩:=UD (n:=n) (x:=x) (by omega) f (by omega)
 obtain⟨k,j⟩:∃k,n+1+k=6:=⟨5-n,by omega⟩
 obtain⟨m,e,o,p,q⟩:=Mp f g k (n+1) (ad Bq (.row [ni l d])) false j (by rw[B4];omega) (by rw[B4,G1];omega) (X:=ni l d) rfl
 refine⟨m,e,?_,p,by rw[q,ir];exact a⟩
 rw[Vr,ifF (by omega),ifF (by omega),ifT g,i,Az (by omega)]
 refine(?_:cond (decide ((1:Int)=1)) (cond (decide (x/128^n=0)) _ _) _=_);rw[ifT rfl,ifT c,ifT (by rw[G1];decide)]
 exact o
def vb(x:Int):Nat:=if x<128 then 1 else if x<16384 then 2 else if x<2097152 then 3 else if x<268435456 then 4 else 5
theorem iH{x:Int}(a:0≤x)(b:x<34359738368):∃l c,R8 (.int x)=.row [.int 1,l,.bool c]∧0<len l∧len (cl l 0 0)=vb x:=by
 rw[wH];refine(?_:∃l c,Jz (.int x) Bq (.bool true) (.int ((1:Nat):Int))=_∧_∧_)
 unfold vb;have p1:x/128^1=x/128:=rfl;have p2:x/128^2=x/16384:=rfl;have p3:x/128^3=x/2097152:=rfl;have p4:x/128^4=x/268435456:=rfl;have p5:x/128^5=x/34359738368:=rfl;by_cases c1:x<128
 ·rw[if_pos c1];exact I5 a b (by decide) (by decide) (by rw[p1];omega)
 ·rw[if_neg c1,Jx a b (by decide) (by rw[p1];omega)]
  by_cases c2:x<16384
  ·rw[if_pos c2];exact I5 a b (by decide) (by decide) (by rw[p2];omega)
  ·rw[if_neg c2,Jx a b (by decide) (by rw[p2];omega)]
   by_cases c3:x<2097152
   ·rw[if_pos c3];exact I5 a b (by decide) (by decide) (by rw[p3];omega)
   ·rw[if_neg c3,Jx a b (by decide) (by rw[p3];omega)]
    by_cases c4:x<268435456
    ·rw[if_pos c4];exact I5 a b (by decide) (by decide) (by rw[p4];omega)
    ·rw[if_neg c4,Jx a b (by decide) (by rw[p4];omega)]
     exact I5 a b (by decide) (by decide) (by rw[p5];omega)
theorem LQ{x:Int}:ari .shr .i64 x 7=x/128:=by
 have e:ari .shr .i64 x 7=x.fdiv (2^7):=rfl;rw[e,Int.fdiv_eq_ediv_of_nonneg _ (by decide)];rfl
end
def J7(c o:Int):Int:=(o+c-1)/c*c-o
section
variable [Ao]
variable {v0 v9 v10 v11 v12 v13:D}{v3 v7 v8 v14 v15:Int}{v5 v6:Bool}
theorem Tb{k:Int}{b o:Int}(d:0≤o∧o≤7)(a:b=2∨b=4):∀n (w:Nat),w+n=8→(w:Int)≤J7 b o→Oq (.int o) (.int (w:Nat)) v0 (.int k) (.int b) (.bool v5) (.bool v6) (.int v7) (.int v8) (.int v3) v9 v10 v11 v12 v13 (.int v14) (.int v15)=.row [.int 1,.int (J7 b o)]
 |n,w,h,g=>by
  have e:J7 b o=(o+b-1)/b*b-o:=rfl
  have f:ari .rem .i64 (wrap .i64 (o+w)) b=(o+w)%b:=by
   rw[Aq (by omega) (by omega),Cw (by omega) (by omega)]
  rw[f7,ifT (by omega),ifF (by omega),f]
  by_cases c:(o+w)%b=0
  ·rw[ifT c,ifF (by rw[Aq (by omega) (by omega)];omega),Int.add_zero,Aq (by omega) (by omega)]
   have:(w:Int)=J7 b o:=by rcases a with rfl|rfl<;>omega
   rw[this]
  ·rw[ifF c];cases n with
   |zero=>exfalso;rcases a with rfl|rfl<;>omega
   |succ n=>
    rw[show wrap .i64 ((w:Int)+1)=((w+1:Nat):Int)from Az (by omega)]
    exact Tb d a n (w+1) (by omega) (by rcases a with rfl|rfl<;>omega)
theorem ZO{k:Int}{b o:Int}(d:0≤o∧o≤7)(e:8≤b∧b≤512):∀n (w:Nat),w+n=8→(w:Int)≤J7 8 o→Oq (.int o) (.int (w:Nat)) v0 (.int k) (.int b) (.bool v5) (.bool v6) (.int v7) (.int v8) (.int v3) v9 v10 v11 v12 v13 (.int v14) (.int v15)=.row [.int 1,.int (J7 8 o+(b-8))]
 |n,w,h,i=>by
  have f:J7 8 o=(o+8-1)/8*8-o:=rfl
  have g:ari .rem .i64 (wrap .i64 (o+w)) 8=(o+w)%8:=by
   rw[Aq (by omega) (by omega),Cw (by omega) (by omega)]
  have a:wrap .i64 (b-8)=b-8:=Aq (by omega) (by omega)
  rw[f7,ifF (by omega),g,a]
  by_cases c:(o+w)%8=0
  ·have:(w:Int)=J7 8 o:=by omega
   rw[ifT c];by_cases c8:0<b-8
   ·rw[ifT c8,Aq (by omega) (by omega),this]
   ·rw[ifF c8,Int.add_zero,Aq (by omega) (by omega),this,show b-8=0 by omega,Int.add_zero]
  ·rw[ifF c];cases n with
   |zero=>exfalso;omega
   |succ n=>
    rw[show wrap .i64 ((w:Int)+1)=((w+1:Nat):Int)from Az (by omega)]
    exact ZO d e n (w+1) (by omega) (by omega)
end
end Mz
namespace Mz
open Go Go.AE
section
variable [Ao]
theorem Zv{e:Int}:wrap .i64 e≤9223372036854775807:=by
 show(if (true&&decide (e%(2^64:Int)≥2^63))=true then e%(2^64:Int)-2^64 else e%(2^64:Int))≤9223372036854775807
 split
 ·omega
 ·rename_i q;simp only[Aff,l0]at q;omega
theorem ww{y:Int}:wrap .i64 (wrap .i64 (y+8)-1)=wrap .i64 (y+7):=by
 have e:∀a:Int,wrap .i64 a=if a%18446744073709551616≥9223372036854775808 then a%18446744073709551616-18446744073709551616 else a%18446744073709551616:=fun a=>by
  show(if (true&&decide (a%(2^64:Int)≥2^63))=true then a%(2^64:Int)-2^64 else a%(2^64:Int))=_
  simp only[Aff,l0];rfl
 rw[e,e,e]
 repeat' split
 all_goals omega
theorem cB{v a:D}{i:Nat}{o m:Int}(C:FO v)(hi:i<len v)(E:0≤o∧o≤7):∃z:Int,
  NS a v (.int m) (cl v i 0) (cl v i 1) (cl v i 2) (cl v i 3) (cl v i 4) (cl v i 5) (cl v i 6) (cl v i 7) (cl v i 8) (cl v i 9) (cl v i 10) (cl v i 11) (cl v i 12) (cl v i 13) (cl v i 14) (.int o)=.row [.int 1,.int z]∧
  Rg a v (cl v i 0) (cl v i 1) (cl v i 2) (cl v i 3) (cl v i 4) (cl v i 5) (cl v i 6) (cl v i 7) (cl v i 8) (cl v i 9) (cl v i 10) (cl v i 11) (cl v i 12) (cl v i 13) (cl v i 14) (.int o)=.row [.int 1,.int z]:=by
 have hv:=C.ft;have few:=hv.few;have F:=C.ex i hi;have l8:=hv.len8 i hi;have P:=hv.nil8 i hi;obtain⟨h,Q⟩:=hv.i1 i hi;obtain⟨k,R⟩:=hv.i2 i hi;obtain⟨n3,V⟩:=hv.b3 i hi;obtain⟨W,X⟩:=hv.b4 i hi;obtain⟨Y,S⟩:=hv.i5 i hi;obtain⟨e,T⟩:=hv.i6 i hi;obtain⟨p,U⟩:=hv.i7 i hi;obtain⟨d,w⟩:=hv.i13 i hi;obtain⟨Z,G⟩:=hv.i14 i hi;unfold EX at F;rw[Q,R,S,T,U,w]at F;have H:EX' v i h k Y e p d:=F;obtain⟨_,_,k12,I,J,k56,y,A⟩:=H;rw[Q,R,V,X,S,T,U,w,G];by_cases k1:h=1
 ·exact⟨k,by rw[Gu,ifT k1],by rw[Gq,ifT k1]⟩
 by_cases k2:h=2
 ·exact⟨k,by rw[Gu,ifF k1,ifT k2],by rw[Gq,ifF k1,ifT k2]⟩
 by_cases k3:h=3
 ·obtain⟨q1,q2,q3⟩:=I k3;cases W with
  |true=>exact⟨40,by rw[Gu,ifF k1,ifF k2,ifT k3];rfl,by rw[Gq,ifF k1,ifF k2,ifT k3];rfl⟩
  |false=>
   refine⟨8*(vb e:Nat),?_,?_⟩
   ·rw[Gu,ifF k1,ifF k2,ifT k3,y0,ifF (by omega),ifT (by omega),LQ,LQ,LQ,LQ]
    unfold vb;by_cases c1:e<128
    ·rw[ifT c1,if_pos c1];rfl
    ·rw[ifF c1,if_neg c1];by_cases c2:e<16384
     ·rw[ifT (by omega),if_pos c2];rfl
     ·rw[ifF (by omega),if_neg c2]
      by_cases c3:e<2097152
      ·rw[ifT (by omega),if_pos c3];rfl
      ·rw[ifF (by omega),if_neg c3]
       by_cases c4:e<268435456
       ·rw[ifT (by omega),if_pos c4];rfl
       ·rw[ifF (by omega),if_neg c4,ifT (by omega)];rfl
   ·obtain⟨l,b',g1,g2,g3⟩:=iH (x:=e) (by omega) (by omega)
    rw[Gq,ifF k1,ifF k2,ifT k3,y0,ifF (by omega),ifT (by omega),g1]
    refine(?_:cond (decide ((1:Int)=1)) (cond (decide (0<(len l:Int))) (D.row [D.int 1,D.int (wrap .i64 (8*(len (cl l 0 0):Int)))]) _) _=_)
    have aa:vb e≤5:=by
     unfold vb
     repeat' split
     all_goals decide
    rw[ifT rfl,ifT (by omega),g3,Aq (by omega) (by omega)]
 by_cases k4:h=4
 ·have f:=(J k4).up (n:=len v) (Nat.le_of_lt hi);have B:=Ab1 C.ex (R2 (len v));have h9:Bu v=.row [.int 1,AK v (len v)]:=eT (by omega) B
  have s:len (cl v i 8)≤1000000:=by omega
  refine⟨wrap .i64 (8*Jr (AK v (len v)) (cl v i 8) p (len (cl v i 8))),?_,?_⟩
  ·have s1:=f.lo;have s2:=f.hi;have s3:=f.few;rw[Gu,ifF k1,ifF k2,ifF k3,ifT k4,h9];refine(?_:cond (decide ((1:Int)=1)) (cond (decide (p < -1048576)) _ (cond (decide ((sl (BO (l2 (!decide (1048576<p)) (!decide (4<(len (cl v i 8):Int)))) (.bool false) (.bool false)) 0).toInt=1)) (cond (decide ((sl (BO (l2 (!decide (1048576<p)) (!decide (4<(len (cl v i 8):Int)))) (.bool false) (.bool false)) 1).toInt<0)) _ _) _)) _=_);rw[ifT rfl,ifF (by omega),X1,AJ,lp (by omega:¬1048576<p),lp (by omega:¬4<(len (cl v i 8):Int)),ifT (by show(-1:Int)<0;decide)]
   obtain⟨r,mm,g8,hr⟩:=f.run;rw[g8];refine(?_:cond (decide ((1:Int)=1)) (cond (decide (r<0)) (cond (cl v i 8).isNil _ _) _) _=_);rw[ifT rfl,ifT hr];obtain⟨z1,K⟩:=T1 (t:=cl v i 8) (M:=AK v (len v)) (base:=p) (c:=true) s;have L:=gD (t:=cl v i 8) (M:=AK v (len v)) (base:=p) s f.known;rw[show sl (D.row [.int 1,AK v (len v)]) 1=AK v (len v)from rfl,K,L]
   cases hN:(cl v i 8).isNil with
   |true=>
    rw[Aer];rcases Pn (t:=Bq) (M:=AK v (len v)) (b:=true) (by decide) (fun j g=>absurd g (hX _)) (fun j g=>absurd g (hX _))with⟨u,u2⟩|⟨u,_⟩
    ·exact absurd (fun j g=>absurd g (hX _)) u2
    ·rw[u];rfl
   |false=>
    rw[y0,ifT (by omega)]
    simp only[Bool.false_and];rcases Pn (t:=ct Al (cl v i 8)) (M:=AK v (len v)) (b:=false) (by rw[DY];omega) (fun j g=>by rw[FG];exact f.known j (by rw[←DY];exact g)) (fun j g=>by rw[FG];exact(f.terms j (by rw[←DY];exact g)).name)with⟨u,u2⟩|⟨u,_⟩
    ·exact absurd (fun j g=>by rw[FG];exact f.right j (by rw[←DY];exact g)) u2
    ·rw[u];rfl
  ·rw[Gq,ifF k1,ifF k2,ifF k3,ifT k4,il (by omega) s B f.terms f.known f.right]
   rfl
 by_cases k5:h=5
 ·have q:=k56 (.inl k5);refine⟨8*e+8,?_,?_⟩
  ·rw[Gu,ifF k1,ifF k2,ifF k3,ifF k4,ifT k5,Aq (a:=e+1) (by omega) (by omega),Aq (by omega) (by omega),show 8*(e+1)=8*e+8 by omega]
  ·rw[Gq,ifF k1,ifF k2,ifF k3,ifF k4,ifT k5,Aq (a:=8*e) (by omega) (by omega),Aq (by omega) (by omega)]
 by_cases k6:h=6
 ·exact⟨_,by rw[Gu,ifF k1,ifF k2,ifF k3,ifF k4,ifF k5,ifT k6],by rw[Gq,ifF k1,ifF k2,ifF k3,ifF k4,ifF k5,ifT k6]⟩
 by_cases k10:h=10
 ·rcases y k10 with rfl|rfl|⟨b1,b2,b3⟩
  ·refine⟨J7 2 o,?_,?_⟩
   ·rw[Gu,ifF k1,ifF k2,ifF k3,ifF k4,ifF k5,ifF k6,ifT k10,ifT (by decide),ifT rfl,ifF (by omega),ifF (by omega),ifF (by decide),Aq (a:=o+2) (by omega) (by omega),Aq (a:=o+2-1) (by omega) (by omega),IW (by decide) (by omega) (by omega),Aq (a:=(o+2-1)/2*2) (by omega) (by omega),Aq (a:=(o+2-1)/2*2-o) (by omega) (by omega),Int.add_zero,Aq (by omega) (by omega)]
    rfl
   ·rw[Gq,ifF k1,ifF k2,ifF k3,ifF k4,ifF k5,ifF k6,ifT k10];exact Tb E (.inl rfl) 8 0 rfl (by show(0:Int)≤(o+2-1)/2*2-o;omega)
  ·refine⟨J7 4 o,?_,?_⟩
   ·rw[Gu,ifF k1,ifF k2,ifF k3,ifF k4,ifF k5,ifF k6,ifT k10,ifT (by decide),ifF (by decide),ifT rfl,ifF (by omega),ifF (by omega),ifF (by decide),Aq (a:=o+4) (by omega) (by omega),Aq (a:=o+4-1) (by omega) (by omega),IW (by decide) (by omega) (by omega),Aq (a:=(o+4-1)/4*4) (by omega) (by omega),Aq (a:=(o+4-1)/4*4-o) (by omega) (by omega),Int.add_zero,Aq (by omega) (by omega)]
    rfl
   ·rw[Gq,ifF k1,ifF k2,ifF k3,ifF k4,ifF k5,ifF k6,ifT k10];exact Tb E (.inr rfl) 8 0 rfl (by show(0:Int)≤(o+4-1)/4*4-o;omega)
  ·have N:J7 8 o=(o+8-1)/8*8-o:=rfl;have O:wrap .i64 (k-8)=k-8:=Aq (by omega) (by omega)
   refine⟨J7 8 o+(k-8),?_,?_⟩
   ·rw[Gu,ifF k1,ifF k2,ifF k3,ifF k4,ifF k5,ifF k6,ifT k10,ifF (by omega),ifF (by omega),ifF (by omega),O,Aq (a:=o+8) (by omega) (by omega),Aq (a:=o+8-1) (by omega) (by omega),IW (by decide) (by omega) (by omega),Aq (a:=(o+8-1)/8*8) (by omega) (by omega),Aq (a:=(o+8-1)/8*8-o) (by omega) (by omega),←N]
    by_cases c8:0<k-8
    ·rw[ifT c8,Aq (by omega) (by omega)]
    ·rw[ifF c8,Aq (by omega) (by omega),show k-8=0 by omega]
   ·rw[Gq,ifF k1,ifF k2,ifF k3,ifF k4,ifF k5,ifF k6,ifT k10];exact ZO E ⟨b1,b2⟩ 8 0 rfl (by show(0:Int)≤J7 8 o;omega)
 by_cases k11:h=11
 ·obtain⟨q1,q2⟩:=A k11;have hw:wrap .i64 (d-1)=d-1:=Aq (by omega) (by omega)
  refine⟨if d=3 then 32 else 16,?_,?_⟩
  ·rw[Gu,ifF k1,ifF k2,ifF k3,ifF k4,ifF k5,ifF k6,ifF k10,ifT k11,ifF (by omega),ifF (by omega),hw]
   by_cases c1:d=1
   ·rw[ifT (by omega),if_neg (by omega)]
   ·rw[ifF (by omega)]
    by_cases c2:d=2
    ·rw[ifT (by omega),if_neg (by omega)]
    ·rw[ifF (by omega),ifT (by omega),if_pos (by omega)]
  ·rw[Gq,ifF k1,ifF k2,ifF k3,ifF k4,ifF k5,ifF k6,ifF k10,ifT k11];by_cases c3:d=3
   ·rw[ifT c3,if_pos c3]
   ·rw[ifF c3,if_neg c3]
 exact⟨0,by rw[Gu,ifF k1,ifF k2,ifF k3,ifF k4,ifF k5,ifF k6,ifF k10,ifF k11],by rw[Gq,ifF k1,ifF k2,ifF k3,ifF k4,ifF k5,ifF k6,ifF k10,ifF k11]⟩
section
variable {v0 v9 v10 v11 v12 v13:D}{v3 v7 v8 v14 v15 k:Int}{v5 v6:Bool}
theorem ZW{b:Int}(a:b=2∨b=4):∀n (w:Nat),w+n=8→Rd (.int (w:Nat)) v0 (.int k) (.int b) (.bool v5) (.bool v6) (.int v7) (.int v8) (.int v3) v9 v10 v11 v12 v13 (.int v14) (.int v15)=.row [.int 1,.int (((w+b-1)/b*b)%8)]
 |n,w,h=>by
  rw[uL,ifF (by omega),Cw (by omega) (by omega)]
  by_cases c:(w:Int)%b=0
  ·rw[ifT c,Cw (by decide) (by omega)]
   have:((w:Int)+b-1)/b*b=w:=by rcases a with rfl|rfl<;>omega
   rw[this]
  ·rw[ifF c];cases n with
   |zero=>exfalso;rcases a with rfl|rfl<;>omega
   |succ n=>
    rw[show wrap .i64 ((w:Int)+1)=((w+1:Nat):Int)from Az (by omega),ZW a n (w+1) (by omega)]
    have:(((w+1:Nat):Int)+b-1)/b*b=((w:Int)+b-1)/b*b:=by rcases a with rfl|rfl<;>omega
    rw[this]
end
theorem jF{v:D}{i:Nat}{o:Int}(c:FO v)(hi:i<len v)(p:0≤o∧o≤7):Vw (cl v i 0) (cl v i 1) (cl v i 2) (cl v i 3) (cl v i 4) (cl v i 5) (cl v i 6) (cl v i 7) (cl v i 8) (cl v i 9) (cl v i 10) (cl v i 11) (cl v i 12) (cl v i 13) (cl v i 14) (.int o)=.row [.int 1,.int (stp (kd v i) (bt v i) o)]:=by
 have hv:=c.ft;obtain⟨b,h⟩:=hv.i1 i hi;obtain⟨a,j⟩:=hv.i2 i hi;obtain⟨z,q⟩:=hv.b3 i hi;obtain⟨A,r⟩:=hv.b4 i hi;obtain⟨B,s⟩:=hv.i5 i hi;obtain⟨C,t⟩:=hv.i6 i hi;obtain⟨E,u⟩:=hv.i7 i hi;obtain⟨x,d⟩:=hv.i13 i hi;obtain⟨y,e⟩:=hv.i14 i hi;have k12:kd v i=1∨kd v i=2→1≤bt v i∧bt v i≤32:=(c.ex i hi).k12;have k10:kd v i=10→bt v i=2∨bt v i=4∨(8≤bt v i∧bt v i≤512∧ari .rem .i64 (bt v i) 8=0):=(c.ex i hi).k10;have k:kd v i=b:=by unfold kd;rw[h];rfl
 have l:bt v i=a:=by unfold bt;rw[j];rfl
 rw[k,l]at k12 k10;rw[k,l,h,j,q,r,s,t,u,d,e,xY];by_cases k1:b=1
 ·have:=k12 (.inl k1);rw[ifT k1,Aq (by omega) (by omega),Cw (by decide) (by omega)];unfold stp;rw[if_pos (.inl k1)]
 rw[ifF k1];by_cases k2:b=2
 ·have:=k12 (.inr k2);rw[ifT k2,Aq (by omega) (by omega),Cw (by decide) (by omega)];unfold stp;rw[if_pos (.inr k2)]
 rw[ifF k2];obtain⟨w,rfl⟩:=ue p.1;obtain⟨n,m⟩:∃n,w+n=8:=⟨8-w,by omega⟩
 by_cases k3:b=10
 ·have f:stp b a (w:Nat)=if a=2 then (((w:Nat)+1:Int)/2*2)%8 else if a=4 then (((w:Nat)+3:Int)/4*4)%8 else 0:=by unfold stp;rw[if_neg (by omega),if_pos k3]
  rw[ifT k3,f];by_cases g:a=2
  ·subst g;rw[ifT rfl,if_pos rfl,ZW (.inl rfl) n w m,show((w:Nat):Int)+2-1=(w:Nat)+1 by omega]
  ·rw[ifF g,if_neg g];by_cases b4:a=4
   ·subst b4;rw[ifT rfl,if_pos rfl,ZW (.inr rfl) n w m,show((w:Nat):Int)+4-1=(w:Nat)+3 by omega]
   ·rw[ifF b4,if_neg b4]
 ·rw[ifF k3];unfold stp;rw[if_neg (by omega),if_neg k3]
def Ns(v:D):Nat→D
 |0=>Bq
 |i+1=>ad (Ns v i) (.row [.int (off v i)])
theorem I2{v:D}:∀i,len (Ns v i)=i
 |0=>rfl
 |i+1=>by rw[Ns,B4,I2 i]
theorem Vj{v:D}{j:Nat}:∀i,j<i→cl (Ns v i) j 0=.int (off v j)
 |i+1,h=>by
  rw[Ns,GH (by omega),I2]
  by_cases c:(j:Int)=(i:Nat)
  ·rw[if_pos c];have:j=i:=by omega
   subst this;rfl
  ·rw[if_neg c];exact Vj i (by omega)
theorem iA{v a:D}(c:FO v):∃b o,Jy a v=.row [.int 1,Ns v (len v),.bool b,.int o]:=by
 have few:=c.ft.few;rw[wy]
 have d:∀k i (b:Bool),i+k=len v→∃e o,Wv (Ns v i) (.bool b) (.int (off v i)) (.int (i:Nat)) a v=.row [.int 1,Ns v (len v),.bool e,.int o]:=by
  intro k
  induction k with
  |zero=>
   intro i b h;have:i=len v:=h;subst this;rw[fk,ifF (by omega)]
   exact⟨_,_,rfl⟩
  |succ k ih=>
   intro i b h;rw[fk,ifT (by omega),ifT (by rw[I2];omega),ifF (by omega),jF c (by omega) (LH i),Az (by omega)]
   rw[AJ];exact ih (i+1) false (by omega)
 exact d (len v) 0 true (by omega)
def hv(o z:Int):Int:=wrap .i64 ((ari .quo .i64 (wrap .i64 ((wrap .i64 ((wrap .i64 (o+z))+8))-1)) 8)-1)
def hdD(o z:Int):D:=cond (decide (0<hv o z)) (.row [.int 1,.int (hv o z)]) (.row [.int 1,.int 0])
section
variable {a nm ms st:D}
theorem lH(b:Fp a ms st=.row [.int 1,.int 0,.int 0,.int 0,.bool false]){i k:Nat}{z:Int}(d:FO (cl ms i 1))(hi:i<len ms)(e:k<len (cl ms i 1))
 (f:NS nm (cl ms i 1) (.int (i:Nat)) (cl (cl ms i 1) k 0) (cl (cl ms i 1) k 1) (cl (cl ms i 1) k 2) (cl (cl ms i 1) k 3) (cl (cl ms i 1) k 4) (cl (cl ms i 1) k 5) (cl (cl ms i 1) k 6) (cl (cl ms i 1) k 7) (cl (cl ms i 1) k 8) (cl (cl ms i 1) k 9) (cl (cl ms i 1) k 10) (cl (cl ms i 1) k 11) (cl (cl ms i 1) k 12) (cl (cl ms i 1) k 13) (cl (cl ms i 1) k 14) (.int (off (cl ms i 1) k))=.row [.int 1,.int z]) :
  M1 nm (cl ms i 1) (.int (i:Nat)) a ms st (.int (k:Nat))=hdD (off (cl ms i 1) k) z:=by
 have c:=jp (q:=k) (z:=0) d (Nat.le_of_lt e);rw[rn _ _ _ _ _ _ _ rfl rfl rfl,b,AJ];refine(?_:(cond false _ (cond _ _ (cond _ (cond _ _ (cond _ (cond (decide ((sl (DC (.int (k:Nat)) (.int 0) (cl ms i 1)) 0).toInt=1)) (cond _ (cond (decide ((sl (NS nm (cl ms i 1) (.int (i:Nat)) (cl (cl ms i 1) k 0) (cl (cl ms i 1) k 1) (cl (cl ms i 1) k 2) (cl (cl ms i 1) k 3) (cl (cl ms i 1) k 4) (cl (cl ms i 1) k 5) (cl (cl ms i 1) k 6) (cl (cl ms i 1) k 7) (cl (cl ms i 1) k 8) (cl (cl ms i 1) k 9) (cl (cl ms i 1) k 10) (cl (cl ms i 1) k 11) (cl (cl ms i 1) k 12) (cl (cl ms i 1) k 13) (cl (cl ms i 1) k 14) (sl (DC (.int (k:Nat)) (.int 0) (cl ms i 1)) 1)) 0).toInt=1)) (cond _ _ _) _) _) _) _)) _)))=_);rw[y0,ifF (by omega),ifT (by omega),ifF (by omega),ifT (by omega),c,AJ,ifT (by omega),show sl (D.row [.int 1,.int (off (cl ms i 1) k)]) 1=.int (off (cl ms i 1) k)from rfl,f,AJ]
 rfl
end
theorem cU{v a x y z:D}{i m:Nat}(b:FO v)(hi:i<len v)(d:Fp x y z=.row [.int 1,.int 0,.int 0,.int 0,.bool false])(f:m<len y)(g:cl y m 1=v) :
  ∃n:Int,0≤n∧n≤9223372036854775807∧M1 a v (.int (m:Nat)) x y z (.int (i:Nat))=.row [.int 1,.int n]∧Nd a v (.int (i:Nat))=.row [.int 1,.int n]:=by
 have few:=b.ft.few;obtain⟨z1,j,k⟩:=cB (a:=a) (m:=(m:Nat)) b hi (LH (v:=v) i);obtain⟨l,o,p⟩:=iA (a:=a) b;have c:hv (off v i) z1=wrap .i64 (ari .quo .i64 (wrap .i64 (wrap .i64 (off v i+z1)+7)) 8-1):=by unfold hv;rw[ww]
 refine⟨if 0<hv (off v i) z1 then hv (off v i) z1 else 0,by split<;>omega,by have:=Zv (e:=ari .quo .i64 (wrap .i64 ((wrap .i64 ((wrap .i64 (off v i+z1))+8))-1)) 8-1);unfold hv;split<;>omega,?_,?_⟩
 ·subst g;rw[lH d b f hi j];unfold hdD;split
  ·rename_i h;rw[ifT h]
  ·rename_i h;rw[ifF h]
 ·rw[c];rw[tu,p,AJ,ifF (by omega)]
  rw[show sl (D.row [.int 1,Ns v (len v),.bool l,.int o]) 1=Ns v (len v)from rfl,I2,ifT (by omega),ifT (by omega),Vj _ hi,k,AJ]
  rw[show(sl (D.row [.int 1,.int z1]) 1).toInt=z1 from rfl,show(D.int (off v i)).toInt=off v i from rfl]
  split
  ·rename_i h;rw[ifT h]
  ·rename_i h;rw[ifF h]
end
end Mz
set_option maxRecDepth 4000
namespace Mz
open Go Go.AE
section
variable [Ao]
section
variable {ms M a st:D}{dp:Nat→Int}
theorem Wf{p:Nat→Bool}{n m j:Nat}(h:fdG p n 0=(j:Nat))(o:j<m)(r:m≤n):fdG p m 0=(j:Nat):=by
 have d:=Dp (p:=p) (k:=n) (i:=0) (by omega)
 rw[h]at d;have e:=Ie (p:=p) (k:=m) (i:=0) (j:=j) (by omega) (by omega) d
 have f:=Dp (p:=p) (k:=m) (i:=0) e.1;obtain⟨q,g⟩:=ue e.1;rcases hH q j with c|c
 ·have l:=Iv (p:=p) (k:=n) (i:=0) (j:=q) (by omega) (.inl (by omega))
  rw[g]at f;have b:p q=true:=f;rw[l]at b;cases b
 ·omega
theorem fx{k:D}{n:Nat}(h:len ms≤1000000)(b:n≤len ms):BY a ms st k (.int (n:Nat))=.row [.int 1,.int (ixN ms n k)]:=by
 rw[fO];refine find (F:=fun j=>Jm k (.int (n:Nat)) (.int (j:Nat)) a ms st) (bad:=fun i=>D.strEq (nmI ms i) k) (n:=n) ?_ ?_
 ·intro j c;refine(?_:Jm k (.int (n:Nat)) (.int ((j:Nat):Int)) a ms st=_);rw[VK,ifT (by omega),ifF (by omega),ifT (by omega),Az (by omega)];rfl
 ·refine(?_:Jm k (.int (n:Nat)) (.int ((n:Nat):Int)) a ms st=_);rw[VK,ifF (by omega)]
def dv(ms:D)(dp:Nat→Int)(r:D):Int:=dp (ixI ms r)
theorem Y7{x y:D}(h:D.strEq x y=true):dv ms dp x=dv ms dp y:=by unfold dv ixI;rw[Cv h]
theorem eK(b:GP ms (len ms) M dp){i:Nat}(hi:i<len ms):GB (dv ms dp) (rfs ms i) (dp i-1):=by
 have d:=b.low i hi;refine⟨by omega,fun r c=>?_,?_⟩
 ·have:=(b.ref' hi c).2.2.2;unfold dv;omega
 ·rcases b.mx i hi with e|⟨r,c,j,k,f,e⟩
  ·exact .inl (by omega)
  ·refine .inr ⟨r,c,?_⟩;have g:ixN ms (len ms) r=(j:Nat):=by rw[←Cv f];exact GF b (by omega)
   have h:ixI ms r=j:=by unfold ixI;rw[g];simp
   unfold dv;rw[h];omega
theorem aY{i:Nat}{m:Int}(h:GB (dv ms dp) (dds ms i) m):GB (dv ms dp) (rfs ms i) m:=by
 obtain⟨c1,c2⟩:=Fu (rfs ms i) [];refine⟨h.nn,fun r b=>?_,h.at'.imp id fun⟨r,b,e⟩=>?_⟩
 ·obtain⟨d,c,f⟩:=c2 r b;rw[←Y7 f];exact h.le d c
 ·rcases DB _ _ b with q|q
  ·cases q
  ·exact⟨r,q,e⟩
def LD(ms:D)(dp:Nat→Int)(P:D→D)(n:Nat):Prop:=∀i:Nat,i≤n→i<len ms→P (.int (i:Nat))=.row [.int 1,.int (dp i)]
theorem dn(b:GP ms (len ms) M dp)(hi:0<len ms):dp 0=1:=by
 rcases b.mx 0 hi with e|⟨_,_,j,c,_⟩
 ·exact e
 ·omega
theorem Ez(u:GP ms (len ms) M dp)(hl:len ms≤9){P F:D→D}{F1:D→D→D→D→D→D}{n:Nat}(Q:LD ms dp P n)
 (y:∀d:Int,F (.int d)=cond (d<0) (.row []) (cond (d<len ms) (cond ((sl (BX (cl ms d 0) (cl ms d 1)) 0).toInt=1) (F1 (.int d) (.int 0) (sl (BX (cl ms d 0) (cl ms d 1)) 1) (sl (BX (cl ms d 0) (cl ms d 1)) 2) (.int 0)) (.row [])) (.row [])))
 (G:∀(H I:Int)(J:D)(d:Bool)(K:Int),F1 (.int H) (.int I) J (.bool d) (.int K)=DT a ms st P F1 H I J d K):LD ms dp F (n+1):=by
 intro i R hi;obtain⟨L,b,z,l⟩:=Kc (nm:=nmI ms i) (u.fo i hi).ft;have v:BX (cl ms i 0) (cl ms i 1)=.row [.int 1,L,.bool b]:=z;have c:L.rows=nms (dds ms i):=l;have N:len L=(dds ms i).length:=by show L.rows.length=_;rw[c];simp[nms]
 have S:=Fc (u.fo i hi).ft _ (R2 _);have few:=(u.fo i hi).ft.few;have A:=FL (rfs ms i) [];have T:(dds ms i).length≤160:=by unfold dds;unfold rfs at *;simp only[Ae6]at A;omega
 have B:∀j (f:j<(dds ms i).length),cl L j 0=(dds ms i)[j]:=fun j f=>E8 c f
 have U:=u.low i hi
 have V:∀k q (m:Int),q+k=len L→0≤m→(∀j (f:j<(dds ms i).length),j<q→dv ms dp (dds ms i)[j]≤m)→(m=0∨∃r∈dds ms i,dv ms dp r=m)→F1 (.int (i:Nat)) (.int m) L (.bool b) (.int (q:Nat))=.row [.int 1,.int (dp i)]:=by
  intro k
  induction k with
  |zero=>
   intro q m h y o p
   have w:GB (dv ms dp) (dds ms i) m:=⟨y,fun r C=>by
    obtain⟨j,f,rfl⟩:=sd C;exact o j f (by omega),p⟩
   have hu:=(aY w).uniq (eK u hi);rw[G];unfold DT;rw[ifF (by omega),Aq (by omega) (by omega),show m+1=dp i by omega]
  |succ k ih=>
   intro q m h y o p;have O:q<(dds ms i).length:=by omega
   have g:(dds ms i)[q]∈dds ms i:=Aet O;have s:(dds ms i)[q]∈rfs ms i:=(DB _ _ g).elim (fun q=>by cases q) id
   obtain⟨f,W,_,_⟩:=u.ref' hi s;have E:ixN ms i (dds ms i)[q]=(ixI ms (dds ms i)[q]:Nat):=Wf W f (Nat.le_of_lt hi)
   have nx:∀t,m≤t→dv ms dp (dds ms i)[q]≤t→(t=m∨dv ms dp (dds ms i)[q]=t)→F1 (.int (i:Nat)) (.int t) L (.bool b) (.int ((q+1:Nat):Int))=.row [.int 1,.int (dp i)]:=fun t w C X=>by
    refine ih (q+1) t (by omega) (by omega) (fun j f Y=>?_) ?_
    ·rcases hH j q with x|x
     ·have:=o j f x;omega
     ·have:j=q:=by omega
      subst this;exact C
    ·rcases X with e|e
     ·subst e;exact p
     ·exact .inr ⟨_,g,e⟩
   have Z:P (sl (.row [.int 1,.int (ixI ms (dds ms i)[q]:Nat)]) 1)=.row [.int 1,.int (dv ms dp (dds ms i)[q])]:=Q _ (by omega) (by omega)
   rw[G];unfold DT;rw[ifT (by omega),ifF (by omega),fx (by omega) (by omega),B q O,E,AJ,Z,AJ,Az (by omega)]
   refine(?_:cond (decide (m<dv ms dp (dds ms i)[q])) _ _=_);by_cases w:m<dv ms dp (dds ms i)[q]
   ·rw[ifT w];exact nx _ (by omega) (by omega) (.inr rfl)
   ·rw[ifF w];exact nx _ (by omega) (by omega) (.inl rfl)
 rw[y,ifF (by omega),ifT (by omega),v,AJ]
 exact V (len L) 0 0 (by omega) (by omega) (fun j f h=>absurd h (hX _)) (.inl rfl)
theorem Ad4(g:GP ms (len ms) M dp)(hi:0<len ms):Vb a ms st (.int (0:Nat))=.row [.int 1]:=by
 obtain⟨L,b,e,c⟩:=Kc (nm:=nmI ms 0) (g.fo 0 hi).ft;have f:RF (fsI ms 0) (len (fsI ms 0))=[]:=Fl g hi;have h:len L=0:=by show L.rows.length=0;rw[c,f];rfl
 have d:BX (cl ms (0:Nat) 0) (cl ms (0:Nat) 1)=.row [.int 1,L,.bool b]:=e;rw[qt,ifF (by omega),ifT (by omega),d,AJ]
 show Z3 (.int (0:Nat)) L (.bool b) a ms st=_;rw[Abl,ifF (by omega)]
theorem Adu(f:GP ms (len ms) M dp)(K:len ms≤9):LD ms dp (fun x=>Rv a ms st x) 1:=by
 intro i B hi;show Rv a ms st (.int (i:Nat))=_;obtain⟨L,b,s,g⟩:=Kc (nm:=nmI ms i) (f.fo i hi).ft;have l:BX (cl ms i 0) (cl ms i 1)=.row [.int 1,L,.bool b]:=s;have c:L.rows=nms (dds ms i):=g;have y:len L=(dds ms i).length:=by show L.rows.length=_;rw[c];simp[nms]
 have C:=Fc (f.fo i hi).ft _ (R2 _);have few:=(f.fo i hi).ft.few;have t:=FL (rfs ms i) [];have E:(dds ms i).length≤160:=by unfold dds;unfold rfs at *;simp only[Ae6]at t;omega
 have F:=f.low i hi;have d0:=dn f (by omega)
 have u:=eK f hi
 have one:∀j (o:j<(dds ms i).length),ixI ms (dds ms i)[j]=0∧ixN ms i (dds ms i)[j]=0∧(dds ms i)[j]∈rfs ms i:=fun j o=>by
  have d:(dds ms i)[j]∈rfs ms i:=(DB _ _ (Aet o)).elim (fun q=>by cases q) id
  obtain⟨v,w,_,_⟩:=f.ref' hi d;have z:ixI ms (dds ms i)[j]=0:=by omega
  have A:=Wf w v (Nat.le_of_lt hi);rw[z]at A;exact⟨z,A,d⟩
 have G:∀k q (m:Int),q+k=len L→(q=0∧m=0∨0<q∧m=1)→SO (.int (i:Nat)) (.int m) L (.bool b) (.int (q:Nat)) a ms st=.row [.int 1,.int (dp i)]:=by
  intro k
  induction k with
  |zero=>
   intro q m h p
   have H:GB (dv ms dp) (dds ms i) m:=⟨by omega,fun r I=>by
    obtain⟨j,o,rfl⟩:=sd I;unfold dv;rw[(one j o).1];omega,by
    rcases p with⟨_,e⟩|⟨p,e⟩
    ·exact .inl e
    ·refine .inr ⟨(dds ms i)[0]'(by omega),Aet _,?_⟩
     unfold dv;rw[(one 0 (by omega)).1];omega⟩
   have N:=(aY H).uniq u;rw[fK,ifF (by omega),Aq (by omega) (by omega),show m+1=dp i by omega]
  |succ k ih=>
   intro q m h p;have n:q<(dds ms i).length:=by omega
   have w:=(one q n).2.1;have J:Vb a ms st (sl (.row [.int 1,.int 0]) 1)=.row [.int 1]:=Ad4 f (by omega)
   rw[fK,ifT (by omega),ifF (by omega),fx (by omega) (by omega),E8 c n,w,AJ,J,AJ,Az (by omega)]
   rcases p with⟨_,e⟩|⟨_,e⟩
   ·rw[ifT (by omega)];exact ih (q+1) 1 (by omega) (.inr ⟨by omega,rfl⟩)
   ·rw[ifF (by omega)];exact ih (q+1) m (by omega) (.inr ⟨by omega,e⟩)
 rw[Abz];unfold EN;rw[ifF (by omega),ifT (by omega),l,AJ]
 exact G (len L) 0 0 (by omega) (.inl ⟨rfl,rfl⟩)
theorem Adx(f:GP ms (len ms) M dp)(g:len ms≤9):LD ms dp (fun x=>U5 a ms st x) 2:=
 Ez (a:=a) (st:=st) f g (P:=fun x=>Rv a ms st x) (F1:=fun x c d b e=>WI x c d b e a ms st) (Adu f g) (fun b=>mT a ms st b) (fun h c d b e=>pH h c d b e a ms st)
theorem Ad6(f:GP ms (len ms) M dp)(g:len ms≤9):LD ms dp (fun x=>WK a ms st x) 3:=
 Ez (a:=a) (st:=st) f g (P:=fun x=>U5 a ms st x) (F1:=fun x c d b e=>U4 x c d b e a ms st) (Adx f g) (fun b=>sj a ms st b) (fun h c d b e=>rX h c d b e a ms st)
theorem Ad5(f:GP ms (len ms) M dp)(g:len ms≤9):LD ms dp (fun x=>U8 a ms st x) 4:=
 Ez (a:=a) (st:=st) f g (P:=fun x=>WK a ms st x) (F1:=fun x c d b e=>VV x c d b e a ms st) (Ad6 f g) (fun b=>Abx a ms st b) (fun h c d b e=>tn h c d b e a ms st)
theorem Ac6(f:GP ms (len ms) M dp)(g:len ms≤9):LD ms dp (fun x=>Vz a ms st x) 5:=
 Ez (a:=a) (st:=st) f g (P:=fun x=>U8 a ms st x) (F1:=fun x c d b e=>Wn x c d b e a ms st) (Ad5 f g) (fun b=>vw a ms st b) (fun h c d b e=>vi h c d b e a ms st)
theorem Adn(f:GP ms (len ms) M dp)(g:len ms≤9):LD ms dp (fun x=>V7 a ms st x) 6:=
 Ez (a:=a) (st:=st) f g (P:=fun x=>Vz a ms st x) (F1:=fun x c d b e=>Vn x c d b e a ms st) (Ac6 f g) (fun b=>vP a ms st b) (fun h c d b e=>oC h c d b e a ms st)
theorem Acv(f:GP ms (len ms) M dp)(g:len ms≤9):LD ms dp (fun x=>Vy a ms st x) 7:=
 Ez (a:=a) (st:=st) f g (P:=fun x=>V7 a ms st x) (F1:=fun x c d b e=>V1 x c d b e a ms st) (Adn f g) (fun b=>mH a ms st b) (fun h c d b e=>ze h c d b e a ms st)
theorem Adv(f:GP ms (len ms) M dp)(g:len ms≤9):LD ms dp (fun x=>NQ a ms st x) 8:=
 Ez (a:=a) (st:=st) f g (P:=fun x=>Vy a ms st x) (F1:=fun x c d b e=>Wt x c d b e a ms st) (Acv f g) (fun b=>qJ a ms st b) (fun h c d b e=>xc h c d b e a ms st)
theorem iY(b:GP ms (len ms) M dp)(c:len ms≤9){i:Nat}(hi:i<len ms):NQ a ms st (.int (i:Nat))=.row [.int 1,.int (dp i)]:=Adv b c i (by omega) hi
end
end
end Mz
set_option maxRecDepth 4000
namespace Mz
open Go Go.AE
section
variable [Ao]
section
variable {ms M a st:D}{dp:Nat→Int}
def Tr'(o:D)(j:Nat):Prop:=cl o (j:Nat) 0=.bool true
structure RO'(ms o:D):Prop where
 ln:len o=len ms
 wd:Wd o 1
 bl:∀j:Nat,j<len ms→∃b,cl o (j:Nat) 0=.bool b
theorem RO'.set{o:D}{i:Nat}(h:RO' ms o)(hi:i<len ms):RO' ms (upd o (i:Nat) 0 (.bool true))∧∀j:Nat,j<len ms→(Tr' (upd o (i:Nat) 0 (.bool true)) j↔Tr' o j∨j=i):=by
 have t:=h.ln
 have l:∀j:Nat,cl (upd o (i:Nat) 0 (.bool true)) (j:Nat) 0=if j=i then .bool true else cl o (j:Nat) 0:=fun j=>by
  rw[HZ h.wd (by omega) (by omega) (by omega) (by omega)]
  by_cases e:j=i
  ·rw[if_pos e,if_pos ⟨by omega,rfl⟩]
  ·rw[if_neg e,if_neg (fun I=>e (by omega))]
 refine⟨⟨by rw[D8,t],MT h.wd,fun j r=>?_⟩,fun j r=>?_⟩
 ·rw[l];split
  ·exact⟨_,rfl⟩
  ·exact h.bl j r
 ·unfold Tr';rw[l];by_cases e:j=i
  ·rw[if_pos e];exact⟨fun _=>.inr e,fun _=>rfl⟩
  ·rw[if_neg e];exact⟨.inl,fun q=>q.elim id fun q=>absurd q e⟩
theorem cC(u:GP ms (len ms) M dp)(Q:len ms≤9){i:Nat}(hi:i<len ms){L:D}{b:Bool}(d:L.rows=nms (dds ms i)) :
  ∀k q (o:D),q+k=len L→RO' ms o→Tr' o i→∃f,N3 o (.int (i:Nat)) L (.bool b) (.int (q:Nat)) a ms st=K0 f (.int ((i:Int)-1)) a ms st∧RO' ms f∧(∀j,j<len ms→Tr' o j→Tr' f j)∧(∀j,j<len ms→Tr' f j→Tr' o j∨∃r∈dds ms i,ixI ms r=j)∧∀p (v:p<(dds ms i).length),q≤p→Tr' f (ixI ms (dds ms i)[p]):=by
 have B:len L=(dds ms i).length:=by show L.rows.length=_;rw[d];simp[nms]
 have E:=Fc (u.fo i hi).ft _ (R2 _);have few:=(u.fo i hi).ft.few;have w:=FL (rfs ms i) [];have F:(dds ms i).length≤160:=by unfold dds;unfold rfs at *;simp only[Ae6]at w;omega
 have G:wrap .i64 ((i:Int)-1)=(i:Int)-1:=Aq (by omega) (by omega)
 intro k
 induction k with
 |zero=>
  intro q o h n s;have x:=n.ln;have g:cl o (i:Nat) 0=.bool true:=s;refine⟨o,?_,n,fun j _ h=>h,fun j _ h=>.inl h,fun p v y=>by omega⟩
  rw[YG,ifF (by omega),ifT (by omega),g]
  refine(?_:cond (decide ((q:Int)<len L)) _ _=_);rw[ifF (by omega),G]
 |succ k ih=>
  intro q o h n s;have x:=n.ln;have g:cl o (i:Nat) 0=.bool true:=s;have y:q<(dds ms i).length:=by omega
  have e:(dds ms i)[q]∈dds ms i:=Aet y;have l:(dds ms i)[q]∈rfs ms i:=(DB _ _ e).elim (fun q=>by cases q) id
  obtain⟨m,H,_,_⟩:=u.ref' hi l;obtain⟨I,t⟩:=n.set (i:=ixI ms (dds ms i)[q]) (by omega)
  obtain⟨f,J,K,C,N,O⟩:=ih (q+1) _ (by omega) I ((t i hi).2 (.inl s))
  refine⟨f,?_,K,fun j m h=>C j m ((t j m).2 (.inl h)),fun j m h=>?_,fun p v P=>?_⟩
  ·rw[←J,YG,ifF (by omega),ifT (by omega),g]
   refine(?_:cond (decide ((q:Int)<len L)) _ _=_);rw[ifT (by omega),ifF (by omega),QD (by omega),E8 d y,H,AJ,Az (by omega)]
   refine(?_:cond (decide (((ixI ms (dds ms i)[q]:Nat):Int)<0)) _ (cond (decide (((ixI ms (dds ms i)[q]:Nat):Int)<len o)) _ _)=_);rw[ifF (by omega),ifT (by omega)]
   rfl
  ·rcases N j m h with z|z
   ·rcases(t j m).1 z with A|A
    ·exact .inl A
    ·exact .inr ⟨_,e,A.symm⟩
   ·exact .inr z
  ·rcases hH q p with c|c
   ·exact O p v c
   ·have:p=q:=by omega
    subst this;exact C _ (by omega) ((t _ (by omega)).2 (.inr rfl))
theorem S6(w:GP ms (len ms) M dp)(G:len ms≤9){s:D}:∀(i:Nat)(o:D),i≤len ms→RO' ms o→(∀j,j<len ms→Tr' o j→Rch ms s (nmI ms j))→(∀j,i≤j→j<len ms→Tr' o j→∀r∈rfs ms j,Tr' o (ixI ms r))→
  ∃l,K0 o (.int ((i:Int)-1)) a ms st=.row [.int 1,l]∧RO' ms l∧(∀j,j<len ms→Tr' o j→Tr' l j)∧(∀j,j<len ms→Tr' l j→Rch ms s (nmI ms j))∧∀j,j<len ms→Tr' l j→∀r∈rfs ms j,Tr' l (ixI ms r)
 |0,o,hi,z,x,E=>by
  refine⟨o,?_,z,fun j _ h=>h,x,fun j k=>E j (Aex _) k⟩
  rw[eZ,ifT (by omega)]
 |i+1,o,hi,z,x,E=>by
  have P:=z.ln;have f:i<len ms:=by omega
  obtain⟨L,b,H,y⟩:=Kc (nm:=nmI ms i) (w.fo i f).ft;have A:BX (cl ms (i:Nat) 0) (cl ms (i:Nat) 1)=.row [.int 1,L,.bool b]:=H;have m:L.rows=nms (dds ms i):=y;have Q:wrap .i64 ((i:Int)-1)=(i:Int)-1:=Aq (by omega) (by omega)
  have J:K0 o (.int (((i+1:Nat):Int)-1)) a ms st=N3 o (.int (i:Nat)) L (.bool b) (.int (0:Nat)) a ms st:=by
   rw[show((i+1:Nat):Int)-1=(i:Int) by omega,eZ,ifF (by omega),ifT (by omega),A,AJ]
   rfl
  obtain⟨t,F⟩:=z.bl i f;cases t with
  |false=>
   have R:N3 o (.int (i:Nat)) L (.bool b) (.int (0:Nat)) a ms st=K0 o (.int ((i:Int)-1)) a ms st:=by
    rw[YG,ifF (by omega),ifT (by omega),F]
    refine(?_:cond false _ _=_);rw[y0,Q]
   rw[J,R]
   exact S6 w G i o (by omega) z x fun j k g v=>by
    rcases hH i j with c|c
    ·exact E j c g v
    ·have:j=i:=by omega
     subst this;have B:cl o (j:Nat) 0=.bool true:=v;rw[F]at B;cases B
  |true=>
   obtain⟨l,S,T,K,N,U⟩:=cC (a:=a) (st:=st) (b:=b) w G f m (len L) 0 o (by omega) z F
   have I:∀j,i≤j→j<len ms→Tr' l j→Tr' o j:=fun j k g v=>by
    rcases N j g v with q|⟨r,n,e⟩
    ·exact q
    ·have u:r∈rfs ms i:=(DB _ _ n).elim (fun q=>by cases q) id
     have:=(w.ref' f u).1;omega
   have C:∀r∈rfs ms i,Tr' l (ixI ms r):=fun r n=>by
    obtain⟨d,V,x⟩:=(Fu (rfs ms i) []).2 r n;have e:ixI ms d=ixI ms r:=by unfold ixI;rw[Cv x]
    obtain⟨p,W,rfl⟩:=sd V;rw[←e];exact U p W (Aex _)
   obtain⟨o2,X,Y,Z,g4,g5⟩:=S6 w G (s:=s) i l (by omega) T (fun j k v=>by
    rcases N j k v with q|⟨r,n,e⟩
    ·exact x j k q
    ·have u:r∈rfs ms i:=(DB _ _ n).elim (fun q=>by cases q) id
     obtain⟨_,_,O,_⟩:=w.ref' f u;rw[e]at O;exact .next f (x i f F) u (by rw[AQ];exact O)) (fun j k g v r n=>by
    rcases hH i j with c|c
    ·have:=w.ref' g n;exact K _ (by omega) (E j c g (I j k g v) r n)
    ·have:j=i:=by omega
     subst this;exact C r n)
   rw[J,S];exact⟨o2,X,Y,fun j k h=>Z j k (K j k h),g4,g5⟩
theorem kT(d:GP ms (len ms) M dp)(u:len ms≤9)(v:Kn M st):∃o,WV a ms st=.row [.int 1,o]∧RO' ms o∧∀j,j<len ms→(Tr' o j↔Rch ms st (nmI ms j)):=by
 obtain⟨s,c,f,g,_⟩:=d.at v;have w:len (rp (len ms:Int) (.row [.bool false]))=len ms:=by rw[jH];simp
 have x:RO' ms (rp (len ms:Int) (.row [.bool false])):=⟨w,Abr rfl,fun j b=>⟨false,eQ (by omega) (by omega)⟩⟩
 have y:∀j,j<len ms→¬Tr' (rp (len ms:Int) (.row [.bool false])) j:=fun j b h=>by
  have e:cl (rp (len ms:Int) (.row [.bool false])) (j:Nat) 0=.bool false:=eQ (by omega) (by omega)
  have h':cl (rp (len ms:Int) (.row [.bool false])) (j:Nat) 0=.bool true:=h;rw[e]at h';cases h'
 obtain⟨z,p⟩:=x.set c;have only:∀j,j<len ms→Tr' (upd (rp (len ms:Int) (.row [.bool false])) (s:Nat) 0 (.bool true)) j→j=s:=fun j b h=>((p j b).1 h).elim (fun q=>absurd q (y j b)) id
 obtain⟨o,A,B,C,E,F⟩:=S6 (a:=a) (st:=st) d u (s:=st) (len ms) _ (R2 _) z (fun j b h=>by
  rw[only j b h];exact .stop (by rw[AQ];exact g)) (fun j b G=>by omega)
 have l:Tr' o s:=C s c ((p s c).2 (.inr rfl));refine⟨o,?_,B,fun j b=>⟨E j b,fun h=>?_⟩⟩
 ·rw[Abt,ifT (by omega),QD (by omega),f,AJ]
  refine(?_:cond (decide ((s:Int)<0)) _ (cond (decide ((s:Int)<len (rp (len ms:Int) (.row [.bool false])))) _ _)=_);rw[ifF (by omega),ifT (by omega),Aq (by omega) (by omega)]
  exact A
 ·have key:∀k,Rch ms st k→∃q,q<len ms∧ixN ms (len ms) k=(q:Nat)∧Tr' o q:=fun k H=>by
   induction H with
   |stop h=>exact⟨s,c,by rw[←Cv h];exact f,l⟩
   |@next i r k m L t I ih=>
    obtain⟨q,J,e,n⟩:=ih;rw[GF d m]at e;have:q=i:=by omega
    subst this;obtain⟨b,K,_,_⟩:=d.ref' m t;exact⟨ixI ms r,by omega,by rw[←Cv I];exact K,F q m n r t⟩
  obtain⟨q,J,e,n⟩:=key _ h;rw[GF d b]at e;have:q=j:=by omega
  subst this;exact n
end
end
end Mz
set_option maxRecDepth 4000
namespace Mz
open Go Go.AE
section
variable [Ao]
def MxP(Q:Int→Prop)(m:Int):Prop:=0≤m∧(∀x,Q x→x≤m)∧(m=0∨Q m)
theorem MxP.uniq{Q:Int→Prop}{m l:Int}(h:MxP Q m)(h':MxP Q l):m=l:=by
 obtain⟨a1,a2,a3⟩:=h;obtain⟨t,r,b3⟩:=h';have c1:m≤l:=by rcases a3 with e|e;omega;exact r _ e
 have c2:l≤m:=by rcases b3 with e|e;omega;exact a2 _ e
 omega
theorem MxP.congr{Q R:Int→Prop}{m:Int}(h:MxP Q m)(e:∀x,R x↔Q x):MxP R m:=⟨h.1,fun x l=>h.2.1 x ((e x).1 l),h.2.2.imp id (e m).2⟩
theorem MxP.join{Q R:Int→Prop}{m z:Int}(h:MxP Q m)(k:MxP R z):MxP (fun x=>Q x∨R x) (if m<z then z else m):=by
 obtain⟨a1,a2,a3⟩:=h;obtain⟨t,r,b3⟩:=k;split
 ·refine⟨by omega,fun x l=>l.elim (fun q=>?_) (r x),b3.imp id .inr⟩
  have:=a2 x q;omega
 ·refine⟨a1,fun x l=>l.elim (a2 x) fun q=>?_,a3.imp id .inl⟩
  have:=r x q;omega
theorem MxP.one{y:Int}(h:0≤y):MxP (fun x=>x=y) y:=⟨h,fun x e=>by omega,.inr rfl⟩
theorem MxP.none{Q:Int→Prop}(h:∀x,¬Q x):MxP Q 0:=⟨Ae8 _,fun x q=>absurd q (h x),.inl rfl⟩
theorem PW{m z:Int}{F:Int→D}:cond (decide (m<z)) (F z) (F m)=F (if m<z then z else m):=by
 by_cases h:m<z
 ·rw[ifT h,if_pos h]
 ·rw[ifF h,if_neg h]
section
variable {ms M a st:D}{dp:Nat→Int}
def hN(ms:D)(i k:Nat):Int:=(sl (Nd (cl ms (i:Nat) 0) (cl ms (i:Nat) 1) (.int (k:Nat))) 1).toInt
theorem ZH(b:Fp a ms st=.row [.int 1,.int 0,.int 0,.int 0,.bool false]){i k:Nat}(d:FO (cl ms i 1))(hi:i<len ms)(f:k<len (cl ms i 1)):0≤hN ms i k∧hN ms i k≤9223372036854775807∧M1 (cl ms i 0) (cl ms i 1) (.int (i:Nat)) a ms st (.int (k:Nat))=.row [.int 1,.int (hN ms i k)]∧Nd (cl ms i 0) (cl ms i 1) (.int (k:Nat))=.row [.int 1,.int (hN ms i k)]:=by
 obtain⟨n,g,h,j,c⟩:=cU (a:=cl ms i 0) d f b hi rfl;have e:hN ms i k=n:=by unfold hN;rw[c];rfl
 rw[e];exact⟨g,h,j,c⟩
def Q1(ms:D)(i q:Nat)(x:Int):Prop:=∃k,k<q∧x=hN ms i k
theorem Q1.succ{i q:Nat}{x:Int}:Q1 ms i (q+1) x↔Q1 ms i q x∨x=hN ms i q:=by
 constructor
 ·rintro ⟨k,l,e⟩
  rcases hH k q with c|c
  ·exact .inl ⟨k,c,e⟩
  ·have:k=q:=by omega
   subst this;exact .inr e
 ·rintro (⟨k,l,e⟩|e)
  ·exact⟨k,by omega,e⟩
  ·exact⟨q,by omega,e⟩
theorem aw(b:Fp a ms st=.row [.int 1,.int 0,.int 0,.int 0,.bool false]){i:Nat}(c:FO (cl ms i 1))(hi:i<len ms):∀n k (m:Int),k+n=len (cl ms i 1)→MxP (Q1 ms i k) m→∃z:Int,O7 (.int m) (cl ms i 1) (.int (k:Nat)) (cl ms i 0) (cl ms i 1) (.int (i:Nat)) a ms st=.row [.int 1,.int z]∧MxP (Q1 ms i (len (cl ms i 1))) z
 |0,k,m,h,d=>by
  have:k=len (cl ms i 1):=h;subst this;exact⟨m,by rw[fL,ifF (by omega)],d⟩
 |n+1,k,m,h,d=>by
  have few:=c.ft.few;obtain⟨e,_,g,_⟩:=ZH b c hi (k:=k) (by omega)
  rw[fL,ifT (by omega),ifF (by omega),g,AJ,Az (by omega)]
  obtain⟨z,z1,z2⟩:=aw b c hi n (k+1) (if m<hN ms i k then hN ms i k else m) (by omega) ((d.join (.one e)).congr fun x=>Q1.succ)
  exact⟨z,(PW (F:=fun y=>O7 (.int y) (cl ms i 1) (.int ((k+1:Nat):Int)) (cl ms i 0) (cl ms i 1) (.int (i:Nat)) a ms st)).trans z1,z2⟩
def Q2(ms st:D)(q:Nat)(x:Int):Prop:=∃i,i<q∧Rch ms st (nmI ms i)∧Q1 ms i (len (cl ms i 1)) x
theorem Q2.yes{q:Nat}{x:Int}(h:Rch ms st (nmI ms q)):Q2 ms st (q+1) x↔Q2 ms st q x∨Q1 ms q (len (cl ms q 1)) x:=by
 constructor
 ·rintro ⟨i,hi,l,e⟩
  rcases hH i q with c|c
  ·exact .inl ⟨i,c,l,e⟩
  ·have:i=q:=by omega
   subst this;exact .inr e
 ·rintro (⟨i,hi,l,e⟩|e)
  ·exact⟨i,by omega,l,e⟩
  ·exact⟨q,by omega,h,e⟩
theorem Q2.no{q:Nat}{x:Int}(h:¬Rch ms st (nmI ms q)):Q2 ms st (q+1) x↔Q2 ms st q x:=by
 constructor
 ·rintro ⟨i,hi,l,e⟩
  rcases hH i q with c|c
  ·exact⟨i,c,l,e⟩
  ·have:i=q:=by omega
   subst this;exact absurd l h
 ·rintro ⟨i,hi,l,e⟩
  exact⟨i,by omega,l,e⟩
theorem gG{S:D}(d:Fp a ms st=.row [.int 1,.int 0,.int 0,.int 0,.bool false])(u:len ms≤9)(j:∀i:Nat,i<len ms→FO (cl ms i 1))(l:∀i:Nat,i<len ms→(mIx [.str] S (.row [nmI ms i])<0↔¬Rch ms st (nmI ms i))) :
  ∃z:Int,Wj ms S a ms st=.row [.int 1,.int z]∧MxP (Q2 ms st (len ms)) z:=by
 have o:∀n k (m:Int),k+n=len ms→MxP (Q2 ms st k) m→∃z:Int,K2 (.int m) ms (.int (k:Nat)) S a ms st=.row [.int 1,.int z]∧MxP (Q2 ms st (len ms)) z:=by
  intro n
  induction n with
  |zero=>
   intro k m h b;have:k=len ms:=h;subst this;exact⟨m,by rw[eU,ifF (by omega)],b⟩
  |succ n ih=>
   intro k m h b;have e:k<len ms:=by omega
   have p:=b.1;obtain⟨y,g,q⟩:=aw d (j k e) e (len (cl ms k 1)) 0 0 (by omega) (.none fun x ⟨_,h,_⟩=>absurd h (hX _))
   have G:QX (cl ms k 1) (cl ms k 0) (cl ms k 1) (.int (k:Nat)) a ms st=.row [.int 1,.int y]:=by rw[pm];exact g
   have f:=l k e;have r:nmI ms k=cl ms k 0:=rfl;rw[r]at f;rw[eU,ifT (by omega),ifF (by omega),G,AJ,Az (by omega)]
   by_cases c:mIx [.str] S (.row [cl ms k 0])<0
   ·rw[ifT c,ifF (by omega)]
    exact ih (k+1) m (by omega) (b.congr fun x=>Q2.no (f.1 c))
   ·rw[ifF c];have s:Rch ms st (nmI ms k):=Classical.byContradiction fun t=>c (f.2 t)
    obtain⟨z,z1,z2⟩:=ih (k+1) (if m<y then y else m) (by omega) ((b.join q).congr fun x=>Q2.yes s)
    exact⟨z,(PW (F:=fun y=>K2 (.int y) ms (.int ((k+1:Nat):Int)) S a ms st)).trans z1,z2⟩
 rw[yD];exact o (len ms) 0 0 (by omega) (.none fun x ⟨_,h,_⟩=>absurd h (hX _))
theorem ku{o:D}{d g:Int}(l:Fp a ms st=.row [.int 1,.int 0,.int 0,.int 0,.bool false])(I:len ms≤9)(v:∀i:Nat,i<len ms→FO (cl ms i 1))(w:RO' ms o)(A:∀j,j<len ms→(Tr' o j↔Rch ms st (nmI ms j))) :
  ∀n q (m:Int),q+n=len ms→MxP (Q2 ms st q) m→∃z:Int,SK o (.int (q:Nat)) a ms st (.int m) (.int d) (.int g)=.row [.int 1,.int z,.int d,.int g]∧MxP (Q2 ms st (len ms)) z:=by
 have C:=w.ln;intro n
 induction n with
 |zero=>
  intro q m h f;have:q=len ms:=h;subst this;exact⟨m,by rw[fR,ifF (by omega)],f⟩
 |succ n ih=>
  intro q m h f;have c:q<len ms:=by omega
  obtain⟨t,e⟩:=w.bl q c;have few:=(v q c).ft.few;rw[fR,ifT (by omega)]
  cases t with
  |false=>
   have r:¬Rch ms st (nmI ms q):=fun E=>by
    have B:cl o (q:Nat) 0=.bool true:=(A q c).2 E;rw[e]at B;cases B
   rw[show(.int 0:D)=.int ((0:Nat):Int)from rfl,YY,ifF (by omega),ifT (by omega),e]
   refine(?_:∃z:Int,cond false _ _=_∧_)
   rw[y0,Az (by omega)]
   exact ih (q+1) m (by omega) (f.congr fun x=>Q2.no r)
  |true=>
   have r:Rch ms st (nmI ms q):=(A q c).1 e
   have b:∀n p (y:Int),p+n=len (cl ms q 1)→MxP (fun x=>Q2 ms st q x∨Q1 ms q p x) y→∃z:Int,Pb o (.int (q:Nat)) (.int (p:Nat)) a ms st (.int y) (.int d) (.int g)=.row [.int 1,.int z,.int d,.int g]∧MxP (Q2 ms st (len ms)) z:=by
    intro n
    induction n with
    |zero=>
     intro p y h s;have:p=len (cl ms q 1):=h;subst this;rw[YY,ifF (by omega),ifT (by omega),e]
     refine(?_:∃z:Int,cond true _ _=_∧_)
     rw[Aer,ifT (by omega),ifF (by omega),Az (by omega)]
     exact ih (q+1) y (by omega) (s.congr fun x=>Q2.yes r)
    |succ n u=>
     intro p y h s;obtain⟨G,_,_,H⟩:=ZH l (v q c) c (k:=p) (by omega)
     obtain⟨z,z1,z2⟩:=u (p+1) (if y<hN ms q p then hN ms q p else y) (by omega) ((s.join (.one G)).congr fun x=>by rw[Q1.succ,or_assoc])
     refine⟨z,?_,z2⟩;rw[YY,ifF (by omega),ifT (by omega),e]
     refine(?_:cond true _ _=_);rw[Aer,ifT (by omega),ifT (by omega),H,AJ,Az (by omega)]
     exact(PW (F:=fun y=>Pb o (.int (q:Nat)) (.int ((p+1:Nat):Int)) a ms st (.int y) (.int d) (.int g))).trans z1
   exact b (len (cl ms q 1)) 0 m (by omega) (f.congr fun x=>⟨fun h=>h.elim id fun⟨_,h,_⟩=>absurd h (hX _),.inl⟩)
end
end
end Mz
set_option maxRecDepth 4000
namespace Mz
open Go Go.AE
section
variable [Ao]
theorem res{v0 v1 v2 x y M N:D}{n:Nat→Int}(f:len v1≤9)(G:TD v1)(p:Hd v0 v1 v2=.row [.int 1,.bool true])(r:EW v0 v1 v2=.row [.int 2,.int 0,.int 0,.int 0,.bool false,v0,v1,v2,.int (-1),.int (-1),x,y,M,N])(H:Good v1 v2 M N n) :
  ∃z d g:Int,BC v0 v1 v2=.row [.int 1,.int z,.int d,.int g,.int 0]∧Pd v0 v1 v2=.row [.int 1,.int z,.int d,.int g]∧0≤z∧z≤9223372036854775807∧1≤d∧d≤16∧0≤g∧g≤150:=by
 obtain⟨c,hM,l⟩:=H;have m:=dG r;obtain⟨q,I,C,b,T,R,B,J,hC,E,hR,K,s,t⟩:=kR p G c f l;obtain⟨S,L,F⟩:=jk v0 q v2 T I b c f hC E hR t (a:=v0) (st:=v2);obtain⟨i,hi,u,v,af⟩:=c.at l;have O:¬(sl (D.row [.int 2,v0,q,.bool I,v2,C,.bool b,T,R]) 0).toInt=1:=by show ¬(2:Int)=1;decide
 have y22:(sl (D.row [.int 2,v0,q,.bool I,v2,C,.bool b,T,R]) 0).toInt=2:=rfl
 have P:∀k,Rch v1 v2 k→Kn B k:=fun k h=>by
  induction h with
  |stop h=>exact s.congr E.sh h
  |next Q h2 h3 h4 ih=>exact(t _ Q ih _ h3).congr E.sh h4
 have U:∀j:Nat,j<len v1→(mIx [.str] S (.row [nmI v1 j])<0↔¬Rch v1 v2 (nmI v1 j)):=fun j w=>by
  constructor
  ·intro h hr;obtain⟨Q,_⟩:=Gc (F.yes j w (P _ hr));exact Q h
  ·intro h;exact LP (F.un j w fun V=>h (K _ V))
 obtain⟨z,W,X⟩:=gG (S:=S) m f c.fo U
 have Y:¬mIx [.str] M (.row [nmI v1 i])<0:=by
  rw[c.ix,GF c hi];omega
 have Z:cl M (mIx [.str] M (.row [nmI v1 i])) 1=.int (n i):=by
  rw[c.ix,GF c hi];exact(c.cell hi).2
 have aa:lk S v2=some (.int (RG v1 i)):=by
  rw[←Ri F.sh v];exact F.yes i hi (s.congr E.sh (by rw[AQ];exact v))
 obtain⟨s1,s2⟩:=Gc aa
 have ab:BC v0 v1 v2=.row [.int 1,.int z,.int (n i),.int (RG v1 i),.int 0]:=by
  rw[fX v0 v1 v2 J L W rfl r,p,AJ];refine(?_:cond true _ _=_);rw[Aer,ifF O,ifT y22,AJ,T2 (by omega),u,AJ]
  refine(?_:cond (decide ((i:Int)<0)) _ (cond (decide ((2:Int)=1)) _ (cond (decide ((2:Int)=2)) (cond false _ (cond (decide ((i:Int)<len v1)) (cond (decide (mIx [.str] M (.row [nmI v1 i])<0)) _ (cond (decide ((1:Int)=1)) (cond (decide (mIx [.str] S (.row [v2])<0)) _ (D.row [.int 1,.int z,cl M (mIx [.str] M (.row [nmI v1 i])) 1,cl S (mIx [.str] S (.row [v2])) 1,.int 0])) _)) _)) _))=_);rw[ifF (by omega),ifF (by decide),ifT rfl,y0,ifT (by omega),ifF Y,ifT rfl,ifF s1,Z,s2]
 obtain⟨o,ac,ho,hT⟩:=kT (a:=v0) c f l;obtain⟨z',ad,ae⟩:=ku (d:=n i) (g:=RG v1 i) m f c.fo ho hT (len v1) 0 0 (by omega) (.none fun x ⟨_,h,_⟩=>absurd h (hX _))
 have ez:z'=z:=ae.uniq X;subst ez;have A:=c.low i hi;have hg:=aj c i i (R2 _) hi;refine⟨z',n i,RG v1 i,ab,?_,X.1,X.2.2.elim (fun e=>by omega) (fun⟨j,w,_,k,V,e⟩=>by have:=(ZH m (c.fo j w) w V).2.1;omega),A.1,A.2,hg.1,by omega⟩
 have p1:NQ v0 v1 v2 (sl (D.row [.int 1,.int (i:Nat)]) 1)=.row [.int 1,.int (n i)]:=iY c f hi;have p2:NU v0 v1 v2 (sl (D.row [.int 1,.int (i:Nat)]) 1)=.row [.int 1,.int (RG v1 i)]:=ju c f hi;rw[xf,QD (by omega),u,AJ,p1,AJ,p2,AJ,ac,AJ]
 exact ad
theorem wr{z b:Int}(d:0≤z)(e:z≤9223372036854775807)(f:-1000<b)(g:b<1000):(0<b→wrap .i64 (z+b)<0∨z<wrap .i64 (z+b))∧(b≤0→wrap .i64 (z+b)≤z):=by
 constructor
 ·intro a;by_cases c:z+b<9223372036854775808
  ·rw[Aq (by omega) (by omega)];exact .inr (by omega)
  ·left;show(if (true&&decide ((z+b)%(2^64:Int)≥2^63))=true then (z+b)%(2^64:Int)-2^64 else (z+b)%(2^64:Int))<0
   split
   ·omega
   ·rename_i q;simp only[Aff,l0]at q;omega
 ·intro a;rw[Aq (by omega) (by omega)];omega
def In(z d g p q r:Int):Bool:=decide (0≤p∧0≤q∧0≤r∧p≤z∧q≤d∧r≤g)
theorem cX{f i j:D}{z d g:Int}(h:BC f i j=.row [.int 1,.int z,.int d,.int g,.int 0])(p q r:Int):Kp f i j (.int p) (.int q) (.int r)=.row [.int 1,.bool (In z d g p q r)]:=by
 have tr:∀{b:Bool},b=In z d g p q r→D.row [.int 1,.bool b]=.row [.int 1,.bool (In z d g p q r)]:=fun e=>by rw[e]
 have c:¬(0≤p∧0≤q∧0≤r∧p≤z∧q≤d∧r≤g)→false=In z d g p q r:=fun h=>(lp h).symm
 rw[aR,h,AJ];refine(?_:cond (decide ((0:Int)=0)) (cond (decide (q<p)) (cond (decide (r<q)) (cond (decide (r<0)) _ (cond (decide (z<p)) _ (cond (decide (d<q)) _ (D.row [.int 1,.bool (!decide (g<r))])))) (cond (decide (q<0)) _ (cond (decide (z<p)) _ (cond (decide (d<q)) _ (D.row [.int 1,.bool (!decide (g<r))]))))) (cond (decide (r<p)) (cond (decide (r<0)) _ (cond (decide (z<p)) _ (cond (decide (d<q)) _ (D.row [.int 1,.bool (!decide (g<r))])))) (cond (decide (p<0)) _ (cond (decide (z<p)) _ (cond (decide (d<q)) _ (D.row [.int 1,.bool (!decide (g<r))])))))) _=_);rw[ifT rfl]
 have fin:∀{m:Int},(0≤p∧0≤q∧0≤r↔0≤m)→cond (decide (m<0)) (D.row [.int 1,.bool false]) (cond (decide (z<p)) (D.row [.int 1,.bool false]) (cond (decide (d<q)) (D.row [.int 1,.bool false]) (D.row [.int 1,.bool (!decide (g<r))])))=D.row [.int 1,.bool (In z d g p q r)]:=fun{m} k=>by
  by_cases c1:m<0
  ·rw[ifT c1];exact tr (c fun a=>by have:=k.1 ⟨a.1,a.2.1,a.2.2.1⟩;omega)
  ·rw[ifF c1];obtain⟨m1,m2,m3⟩:=k.2 (by omega)
   by_cases c2:z<p
   ·rw[ifT c2];exact tr (c fun a=>by omega)
   ·rw[ifF c2];by_cases c3:d<q
    ·rw[ifT c3];exact tr (c fun a=>by omega)
    ·rw[ifF c3];by_cases c4:g<r
     ·rw[pv c4];exact tr (c fun a=>by omega)
     ·rw[lp c4];exact tr (pv ⟨m1,m2,m3,by omega,by omega,by omega⟩).symm
 by_cases c1:q<p
 ·rw[ifT c1];by_cases c2:r<q
  ·rw[ifT c2];exact fin (m:=r) (by omega)
  ·rw[ifF c2];exact fin (m:=q) (by omega)
 ·rw[ifF c1];by_cases c2:r<p
  ·rw[ifT c2];exact fin (m:=r) (by omega)
  ·rw[ifF c2];exact fin (m:=p) (by omega)
theorem PD{x:Int}:-1000<ari .rem .i64 x 1000∧ari .rem .i64 x 1000<1000:=by
 have e:ari .rem .i64 x 1000=x.tmod 1000:=by
  show(match (match (1000:Int)==0 with|true=>none|false=>some (AV.int .i64 (x.tmod 1000)))with|some (.int _ n)=>n|_=>0)=_
  rfl
 rw[e];have b:=Int.tmod_lt_of_pos x (show(0:Int)<1000 by decide)
 have a:=Int.tmod_lt_of_pos (-x) (show(0:Int)<1000 by decide)
 rw[Int.neg_tmod]at a;omega
theorem fin{v0 v1 v2:D}{z d g b3 b4 b:Int}(h:BC v0 v1 v2=.row [.int 1,.int z,.int d,.int g,.int 0])(z0:0≤z)(z1:z≤9223372036854775807)(d0:1≤d)(d1:d≤16)(m:0≤g)(p:g≤150)
 (c:-1000<b3∧b3<1000)(f:-1000<b4∧b4<1000)(i:-1000<b∧b<1000):FQ (.int 0) (.int 3) v0 v1 v2 (.int b3) (.int b4) (.int b) (.int z) (.int d) (.int g) (.int z) (.int d) (.int g)=.row [.int 1,.bool true]:=by
 obtain⟨p1,p2⟩:=wr z0 z1 c.1 c.2;obtain⟨n,o⟩:=wr (z:=d) (by omega) (by omega) f.1 f.2
 obtain⟨w1,w2⟩:=wr (z:=g) m (by omega) i.1 i.2
 rw[Po _ _ _ _ _ _ _ _ _ _ _ _ _ _ (cX h _ _ _),ifF (by decide),pv (rfl:z=z),pv (rfl:d=d),pv (rfl:g=g)]
 generalize wrap .i64 (z+b3)=x at *;generalize wrap .i64 (d+b4)=y at *;generalize wrap .i64 (g+b)=w at *
 have no:¬(0≤x∧0≤y∧0≤w∧x≤z∧y≤d∧w≤g)→cond (true&&(true&&true)) (cond (decide ((0:Int)=0)) (cond (decide ((sl (D.row [.int 1,.bool (In z d g x y w)]) 0).toInt=1)) (cond (sl (D.row [.int 1,.bool (In z d g x y w)]) 1).toBool (D.row [.int 1,.bool false]) (D.row [.int 1,.bool true])) (D.row [])) (D.row [.int 1,.bool false])) (D.row [.int 1,.bool false])=D.row [.int 1,.bool true]:=fun a=>by
  have e:In z d g x y w=false:=lp a;rw[e];rfl
 by_cases c3:0<b3
 ·rw[ifT c3];exact no fun a=>by have:=p1 c3;omega
 rw[ifF c3];by_cases c4:0<b4
 ·rw[ifT c4];exact no fun a=>by have:=n c4;omega
 rw[ifF c4];by_cases c5:0<b
 ·rw[ifT c5];exact no fun a=>by have:=w1 c5;omega
 rw[ifF c5];by_cases j:x<0
 ·rw[ifT j];exact no fun a=>by omega
 rw[ifF j];by_cases k:y<0
 ·rw[ifT k];exact no fun a=>by omega
 rw[ifF k];have a3:=p2 (by omega)
 have a4:=o (by omega)
 have a5:=w2 (by omega)
 by_cases l:w<0
 ·have e:In z d g x y w=false:=lp fun a=>by omega
  rw[e];exact ifT l
 ·have e:In z d g x y w=true:=pv ⟨by omega,by omega,by omega,a3,a4,a5⟩
  rw[e];exact ifF l
theorem law{v0 v1 v2:D}{h j k:Int}(t:∀m:Nat,m<len v1→FK (cl v1 m 1))(l:TD v1):Yi v0 v1 v2 (.int h) (.int j) (.int k)=.row [.int 1,.bool true]:=by
 rw[gI];rcases rf (v0:=v0) (v1:=v1) (v2:=v2)with g|⟨g,q,u⟩
 ·rw[g];rfl
 rw[g,AJ];refine(?_:cond true _ _=_);rw[Aer]
 have hv:∀m:Nat,m<len v1→FT (cl v1 m 1):=fun m r=>by
  obtain⟨v,s⟩:=u m r;obtain⟨a1,a2,a3,a4,a5,a6,a7,a8,a9,a10,a11⟩:=t m r;exact⟨a1,a2,a3,a4,a5,a6,a7,a8,a9,v,a10,fun i hi=>(s i hi).2,fun i hi=>(s i hi).1,a11⟩
 rcases kx (v0:=v0) (v2:=v2) q hv with a|⟨a,x,y,M,N,B,n,o⟩
 ·have c:BC v0 v1 v2=.row [.int 1,.int 0,.int 0,.int 0,.int 2]:=by rw[fX v0 v1 v2 rfl rfl rfl rfl rfl,a];rfl
  have e:Kp v0 v1 v2 (.int 0) (.int 0) (.int 0)=.row [.int 1,.bool false]:=by rw[aR,c];rfl
  rw[c,a,e];rfl
 obtain⟨z,d,b,f,p,z0,z1,d0,d1,w,A⟩:=res q l a n o;rw[f,AJ,a,AJ];refine(?_:cond true _ _=_);rw[Aer,p,AJ];refine(?_:FQ (.int 0) (.int 0) v0 v1 v2 (.int h) (.int j) (.int k) (.int z) (.int d) (.int b) (.int z) (.int d) (.int b)=_);rw[Po _ _ _ _ _ _ _ _ _ _ _ _ _ _ rfl,ifT (by decide),ifT rfl]
 refine(?_:FQ (.int 0) (.int 1) v0 v1 v2 (.int (ari .rem .i64 h 1000)) (.int j) (.int k) (.int z) (.int d) (.int b) (.int z) (.int d) (.int b)=_);rw[Po _ _ _ _ _ _ _ _ _ _ _ _ _ _ rfl,ifT (by decide),ifF (by decide),ifT rfl]
 refine(?_:FQ (.int 0) (.int 2) v0 v1 v2 (.int (ari .rem .i64 h 1000)) (.int (ari .rem .i64 j 1000)) (.int k) (.int z) (.int d) (.int b) (.int z) (.int d) (.int b)=_);rw[Po _ _ _ _ _ _ _ _ _ _ _ _ _ _ rfl,ifT (by decide),ifF (by decide),ifF (by decide),ifT rfl]
 exact fin f z0 z1 d0 d1 w A PD PD PD
end
end Mz

