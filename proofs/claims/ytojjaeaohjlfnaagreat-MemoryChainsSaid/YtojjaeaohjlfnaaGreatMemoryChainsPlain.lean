/- What is proved: what the plain functions over data say, whose trees the text before writes out: the law MemoryChains answers true. Conditions: those that each theorem states. -/
import Derived.Test.YtojjaeaohjlfnaaGreatMemoryChainsPlainA
set_option linter.unusedVariables false
set_option linter.unusedSectionVars false
set_option linter.unusedSimpArgs false
open Go.IntKind (wrap)
namespace Mc
open Go Go.AE
section
variable [Ao]
structure EX' (v:D) (i:Nat) (k b lo hi base ck:Int):Prop where
 name:BO (cl v i 0)=true
 new:∀j,j<i→D.strEq (cl v j 0) (cl v i 0)=false
 k12:k=1∨k=2→1≤b∧b≤32
 k3:k=3→0≤lo∧lo≤hi∧hi≤34359738367
 k4:k=4→SZ v (cl v i 8) base i
 k56:k=5∨k=6→0≤hi∧hi≤1048576
 k10:k=10→b=2∨b=4∨(8≤b∧b≤512∧ari .rem .i64 b 8=0)
 k11:k=11→1≤ck∧ck≤3
def EX (v:D) (i:Nat):Prop:=EX' v i (cl v i 1).toInt (cl v i 2).toInt (cl v i 5).toInt (cl v i 6).toInt (cl v i 7).toInt (cl v i 13).toInt
def RX (M N v:D) (i:Nat):Prop:=(kd v i=7∨kd v i=8→¬mIx [.str] M (.row [cl v i 9])<0)∧(kd v i=12→¬mIx [.str] N (.row [cl v i 9])<0)∧(kd v i=9→∀j:Nat,j<len (cl v i 12)→¬mIx [.str] M (.row [cl (cl v i 12) j 2])<0)
def Q16 (M N v:D) (i:Nat) (d:D):Prop:=Le d∨(d=.row [.int 2]∧EX v i∧RX M N v i)
theorem A3 {M N v:D} {i:Nat} {a b c:Int}:Q16 M N v i (.row [.int 1,.int a,.int b,.int c]):=.inl ⟨_,_,_,rfl⟩
section
variable {v0 v1 v2 v3 v4 v7:D} {v5:Int}
theorem WJ {v8:D} {v6 lo hi n:Int}:∃F,Fa v0 v1 v2 v3 v4 (.int v5) (.int v6) v7 v8 (.int lo) (.int hi) (m1 n) (.bool false)=F∧((∃a b:Int,F=.row [.int 1,.int a,.int b])∨(F=.row [.int 2]∧lo≤n∧n≤hi)):=⟨_,rfl,cD⟩
theorem zQ {v8:D} {v6 lo hi n m:Int}:∃F,Fa v0 v1 v2 v3 v4 (.int v5) (.int v6) v7 v8 (.int lo) (.int hi) (m2 n m) (.bool false)=F∧((∃a b:Int,F=.row [.int 1,.int a,.int b])∨(F=.row [.int 2]∧lo≤n∧n≤m∧n≤hi∧m≤hi)):=⟨_,rfl,Wa⟩
theorem jv {v:D} {i:Nat} (s:FT v) (hi:i<len v) (U:DN v i):Q16 v3 v4 v i (Yq v0 v1 v2 v3 v4 (.int v5) (.int (i:Nat)) v7 v (cl v i 0) (cl v i 1) (cl v i 2) (cl v i 3) (cl v i 4) (cl v i 5) (cl v i 6) (cl v i 7) (cl v i 8) (cl v i 9) (cl v i 10) (cl v i 11) (cl v i 12) (cl v i 13) (cl v i 14)):=by
 obtain ⟨e,M⟩:=s.i1 i hi;obtain ⟨q,V⟩:=s.i2 i hi;obtain ⟨W,h3⟩:=s.b3 i hi;obtain ⟨X,h4⟩:=s.b4 i hi;obtain ⟨A,Y⟩:=s.i5 i hi;obtain ⟨u,Z⟩:=s.i6 i hi;obtain ⟨I,h7⟩:=s.i7 i hi;obtain ⟨y,E⟩:=s.i13 i hi;obtain ⟨B,N⟩:=s.i14 i hi;have f:EX v i↔EX' v i e q A u I y:=by unfold EX;rw [M,V,Y,Z,h7,E];exact Iff.rfl
 have few:=s.few;have aa:kd v i=e:=by unfold kd;rw [M];rfl
 have r:e≠7∧e≠8∧e≠9∧e≠12→RX v3 v4 v i:=fun w=>⟨fun h=>by omega,fun h=>by omega,fun h=>by omega⟩
 have C:len (sb v 0 (i:Nat))=i:=by rw [M8 (by simp) (by simpa using Nat.le_of_lt hi)];simp
 rw [M,V,h3,h4,Y,Z,h7,E,N]
 obtain ⟨G,g0,H0⟩:∃F,QO v0 v1 v2 v3 v4 (.int v5) (.int (i:Nat)) v7 v (cl v i 0) (.int e) (.int q) (.bool W) (.bool X) (.int A) (.int u) (.int I) (cl v i 8) (cl v i 9) (cl v i 10) (cl v i 11) (cl v i 12) (.int y) (.int B)=F∧(Le F∨(F=.row [.int 2]∧SZ v (cl v i 8) I i)):=
  ⟨_,rfl,lM (by omega) (by omega) U (s.nil8 i hi) (by have:=s.len8 i hi;omega)⟩
 obtain ⟨F3,g3,H3⟩:∃F,Vm v0 v1 v2 v3 v4 (.int v5) (.int (i:Nat)) v7 v (cl v i 0) (.int e) (.int q) (.bool W) (.bool X) (.int A) (.int u) (.int I) (cl v i 8) (cl v i 9) (cl v i 10) (cl v i 11) (cl v i 12) (.int y) (.int B)=F∧FR (∀j:Nat,j<len (cl v i 12)→¬mIx [.str] v3 (.row [cl (cl v i 12) j 2])<0) F:=
  ⟨_,rfl,kL s (by omega) U (by have:=s.len12 i hi;omega) (s.case i hi)⟩
 obtain ⟨J,g1,H1⟩:=zQ (v0:=v0) (v1:=v1) (v2:=v2) (v3:=v3) (v4:=v4) (v5:=v5) (v7:=v7) (v8:=v) (v6:=(i:Nat)) (lo:=0) (hi:=wrap .i64 ((ari .shl .i64 1 q)-1)) (n:=A) (m:=u);obtain ⟨K,g2,H2⟩:=WJ (v0:=v0) (v1:=v1) (v2:=v2) (v3:=v3) (v4:=v4) (v5:=v5) (v7:=v7) (v8:=v) (v6:=(i:Nat)) (lo:=0) (hi:=wrap .i64 ((ari .shl .i64 1 q)-1)) (n:=A);obtain ⟨F5,g5,H5⟩:=zQ (v0:=v0) (v1:=v1) (v2:=v2) (v3:=v3) (v4:=v4) (v5:=v5) (v7:=v7) (v8:=v) (v6:=(i:Nat)) (lo:=0) (hi:=34359738367) (n:=A) (m:=u);obtain ⟨F7,g7,H7⟩:=WJ (v0:=v0) (v1:=v1) (v2:=v2) (v3:=v3) (v4:=v4) (v5:=v5) (v7:=v7) (v8:=v) (v6:=(i:Nat)) (lo:=0) (hi:=4294967295) (n:=B);obtain ⟨F8,g8,H8⟩:=WJ (v0:=v0) (v1:=v1) (v2:=v2) (v3:=v3) (v4:=v4) (v5:=v5) (v7:=v7) (v8:=v) (v6:=(i:Nat)) (lo:=2) (hi:=1048576) (n:=u);obtain ⟨L,g9,H9⟩:=WJ (v0:=v0) (v1:=v1) (v2:=v2) (v3:=v3) (v4:=v4) (v5:=v5) (v7:=v7) (v8:=v) (v6:=(i:Nat)) (lo:=0) (hi:=1048576) (n:=u);obtain ⟨z,O,P⟩:=WJ (v0:=v0) (v1:=v1) (v2:=v2) (v3:=v3) (v4:=v4) (v5:=v5) (v7:=v7) (v8:=v) (v6:=(i:Nat)) (lo:=0) (hi:=255) (n:=A);obtain ⟨ab,Q,R⟩:=WJ (v0:=v0) (v1:=v1) (v2:=v2) (v3:=v3) (v4:=v4) (v5:=v5) (v7:=v7) (v8:=v) (v6:=(i:Nat)) (lo:=1) (hi:=3) (n:=y);rw [re _ _ _ _ _ _ _ _ _ _ _ _ _ _ _ _ _ _ _ _ _ _ _ _ g0 g1 g2 g3 (gV _) g5 (i9 _) g7 g8 g9 O Q,Wg,XG (by rw [C];omega),XG (by rw [C];omega)]
 refine qT rfl ?_;cases o:BO (cl v i 0) with
 |false=>exact A3
 |true=>
  refine (?_:Q16 v3 v4 v i (cond true _ _));rw [qs,ifF (by omega),ifF (by omega)]
  refine qT rfl ?_;by_cases S:fld (sb v 0 (i:Nat)) (cl v i 0)<0
  ·have d:∀j,j<i→D.strEq (cl v j 0) (cl v i 0)=false:=fun j hj=>by
    have:=Kp (p:=fun j=>D.strEq (cl (sb v 0 (i:Nat)) j 0) (cl v i 0)) (k:=len (sb v 0 (i:Nat))) (i:=0) (j:=j) (by omega) (.inr ⟨S,by rw [C];omega⟩)
    simp only [OQ (Nat.le_of_lt hi) hj] at this;exact this
   refine qT S ?_;by_cases k1:e=1
   ·rw [ifT k1];refine qc (qT rfl (qc (qT rfl (qc ?_ A3)) A3)) A3;by_cases c1:q<1
    ·rw [ifT c1];exact A3
    ·rw [ifF c1];by_cases c2:32<q
     ·rw [ifT c2];exact A3
     ·rw [ifF c2];have ok:EX v i:=f.2 (by refine ⟨o,d,?_,?_,?_,?_,?_,?_⟩<;>intro w<;>first | (exfalso;omega)|exact ⟨by omega,by omega⟩)
      have fin:Q16 v3 v4 v i (cond (decide ((sl J 0).toInt=1)) (.row [.int 1,(sl J 1),(sl J 2),(.int 7)]) (cond (decide ((sl J 0).toInt=2)) (.row [.int 2]) (.row []))):=by
       rcases H1 with ⟨a,b,g⟩|⟨g,_⟩
       ·subst g;exact qT rfl A3
       ·subst g;exact qF (by show ¬(2:Int)=1;decide) (qT rfl (.inr ⟨rfl,ok,r (by omega)⟩))
      exact qc (qc (qc fin A3) A3) fin
   ·rw [ifF k1];by_cases k2:e=2
    ·rw [ifT k2];refine qc (qT rfl (qc (qT rfl (qc ?_ A3)) A3)) A3;by_cases c1:q<1
     ·rw [ifT c1];exact A3
     ·rw [ifF c1];by_cases c2:32<q
      ·rw [ifT c2];exact A3
      ·rw [ifF c2];have ok:EX v i:=f.2 (by refine ⟨o,d,?_,?_,?_,?_,?_,?_⟩<;>intro w<;>first | (exfalso;omega)|exact ⟨by omega,by omega⟩)
       have fin:Q16 v3 v4 v i (cond (decide ((sl K 0).toInt=1)) (.row [.int 1,(sl K 1),(sl K 2),(.int 7)]) (cond (decide ((sl K 0).toInt=2)) (.row [.int 2]) (.row []))):=by
        rcases H2 with ⟨a,b,g⟩|⟨g,_⟩
        ·subst g;exact qT rfl A3
        ·subst g;exact qF (by show ¬(2:Int)=1;decide) (qT rfl (.inr ⟨rfl,ok,r (by omega)⟩))
       exact qc (qc (qc fin A3) A3) fin
    ·rw [ifF k2];by_cases k3:e=3
     ·rw [ifT k3];refine qc (qT rfl (qc (qT rfl (qc ?_ A3)) A3)) A3;rcases H5 with ⟨a,b,g⟩|⟨g,l⟩
      ·subst g;exact qT rfl A3
      ·subst g;refine qF (by show ¬(2:Int)=1;decide) (qT rfl (.inr ⟨rfl,f.2 ?_,r (by omega)⟩))
       refine ⟨o,d,?_,?_,?_,?_,?_,?_⟩<;>intro w<;>first | (exfalso;omega)|exact ⟨by omega,by omega,by omega⟩
     ·rw [ifF k3];by_cases k4:e=4
      ·rw [ifT k4];refine qc (qT rfl (qc ?_ A3)) A3;rcases H0 with ⟨a,b,c,g⟩|⟨g,l⟩
       ·subst g;exact qT rfl A3
       ·subst g;refine qF (by show ¬(2:Int)=1;decide) (qT rfl (.inr ⟨rfl,f.2 ?_,r (by omega)⟩))
        refine ⟨o,d,?_,?_,?_,?_,?_,?_⟩<;>intro w<;>first | (exfalso;omega)|exact l
      ·rw [ifF k4];by_cases k5:e=5
       ·rw [ifT k5];refine qc (qT rfl (qc (qT rfl (qc ?_ A3)) A3)) A3
        have r9:∀{x:D},(0≤u∧u≤1048576→Q16 v3 v4 v i x)→Q16 v3 v4 v i (cond (decide ((sl L 0).toInt=1)) (.row [.int 1,(sl L 1),(sl L 2),(.int 7)]) (cond (decide ((sl L 0).toInt=2)) x (.row []))):=fun t=>by
         rcases H9 with ⟨a,b,g⟩|⟨g,l⟩
         ·subst g;exact qT rfl A3
         ·subst g;exact qF (by show ¬(2:Int)=1;decide) (qT rfl (t l))
        have H:∀{x:D},Q16 v3 v4 v i x→Q16 v3 v4 v i (cond (decide ((sl z 0).toInt=1)) (.row [.int 1,(sl z 1),(sl z 2),(.int 7)]) (cond (decide ((sl z 0).toInt=2)) x (.row []))):=fun t=>by
         rcases P with ⟨a,b,g⟩|⟨g,l⟩
         ·subst g;exact qT rfl A3
         ·subst g;exact qF (by show ¬(2:Int)=1;decide) (qT rfl t)
        have ok:0≤u∧u≤1048576→Q16 v3 v4 v i (.row [.int 2]):=fun l=>.inr ⟨rfl,f.2 (by refine ⟨o,d,?_,?_,?_,?_,?_,?_⟩<;>intro w<;>first | (exfalso;omega)|exact l),r (by omega)⟩
        first|exact r9 (fun l=>H (ok l))|exact H (r9 fun l=>ok l)
       ·rw [ifF k5];by_cases k6:e=6
        ·rw [ifT k6];refine qc (qT rfl (qc (qT rfl (qc ?_ A3)) A3)) A3;rcases H8 with ⟨a,b,g⟩|⟨g,l⟩
         ·subst g;exact qT rfl A3
         ·subst g;refine qF (by show ¬(2:Int)=1;decide) (qT rfl (.inr ⟨rfl,f.2 ?_,r (by omega)⟩))
          refine ⟨o,d,?_,?_,?_,?_,?_,?_⟩<;>intro w<;>first | (exfalso;omega)|exact ⟨by omega,by omega⟩
        ·rw [ifF k6]
         have r0:(e≠4∧e≠10∧e≠11)→RX v3 v4 v i→Q16 v3 v4 v i (cond (decide ((sl G 0).toInt=1)) (.row [.int 1,(sl G 1),(sl G 2),(sl G 3)]) (cond (decide ((sl G 0).toInt=2)) (.row [.int 2]) (.row []))):=fun ac T=>by
          rcases H0 with ⟨a,b,c,g⟩|⟨g,l⟩
          ·subst g;exact qT rfl A3
          ·subst g;refine qF (by show ¬(2:Int)=1;decide) (qT rfl (.inr ⟨rfl,f.2 ?_,T⟩))
           refine ⟨o,d,?_,?_,?_,?_,?_,?_⟩<;>intro w<;>exfalso<;>omega
         by_cases k7:e=7
         ·rw [ifT k7];refine qc (qT rfl (qc ?_ A3)) A3;by_cases t:mIx [.str] v3 (.row [cl v i 9])<0
          ·rw [ifT t];exact A3
          ·rw [ifF t];exact r0 (by omega) ⟨fun _=>t,fun h=>by omega,fun h=>by omega⟩
         ·rw [ifF k7];by_cases k8:e=8
          ·rw [ifT k8];refine qc (qT rfl (qc (qT rfl (qc ?_ A3)) A3)) A3;by_cases t:mIx [.str] v3 (.row [cl v i 9])<0
           ·rw [ifT t];exact A3
           ·rw [ifF t];refine .inr ⟨rfl,f.2 ?_,⟨fun _=>t,fun h=>by omega,fun h=>by omega⟩⟩
            refine ⟨o,d,?_,?_,?_,?_,?_,?_⟩<;>intro w<;>exfalso<;>omega
          ·rw [ifF k8];by_cases k9:e=9
           ·rw [ifT k9];refine qc (qT rfl (qc ?_ A3)) A3;rcases H3 with ⟨a,b,c,g⟩|⟨g,l⟩
            ·subst g;exact qT rfl A3
            ·subst g;refine qF (by show ¬(2:Int)=1;decide) (qT rfl (.inr ⟨rfl,f.2 ?_,⟨fun h=>by omega,fun h=>by omega,fun _=>l⟩⟩))
             refine ⟨o,d,?_,?_,?_,?_,?_,?_⟩<;>intro w<;>exfalso<;>omega
           ·rw [ifF k9];by_cases k10:e=10
            ·rw [ifT k10];refine qc (qT rfl (qc (qT rfl (qc ?_ A3)) A3)) A3;have ok:(q=2∨q=4∨(8≤q∧q≤512∧ari .rem .i64 q 8=0))→Q16 v3 v4 v i (.row [.int 2]):=fun l=>.inr ⟨rfl,f.2 (by refine ⟨o,d,?_,?_,?_,?_,?_,?_⟩<;>intro w<;>first | (exfalso;omega)|exact l),r (by omega)⟩
             by_cases c1:q=2
             ·rw [ifT c1];exact ok (.inl c1)
             ·rw [ifF c1];by_cases c2:q=4
              ·rw [ifT c2];exact ok (.inr (.inl c2))
              ·rw [ifF c2];by_cases c3:q<8
               ·rw [ifT c3];exact A3
               ·rw [ifF c3];by_cases c4:512<q
                ·rw [ifT c4];exact A3
                ·rw [ifF c4];by_cases c5:ari .rem .i64 q 8=0
                 ·rw [ifT c5];exact ok (.inr (.inr ⟨by omega,by omega,c5⟩))
                 ·rw [ifF c5];exact A3
            ·rw [ifF k10];by_cases k11:e=11
             ·rw [ifT k11];refine qc (qT rfl (qc (qT rfl (qc ?_ A3)) A3)) A3;rcases R with ⟨a,b,g⟩|⟨g,l⟩
              ·subst g;exact qT rfl A3
              ·subst g;refine qF (by show ¬(2:Int)=1;decide) (qT rfl (qT rfl (qc A3 (.inr ⟨rfl,f.2 ?_,r (by omega)⟩))))
               refine ⟨o,d,?_,?_,?_,?_,?_,?_⟩<;>intro w<;>first | (exfalso;omega)|exact l
             ·rw [ifF k11];by_cases k12:e=12
              ·rw [ifT k12];refine qc (qT rfl (qc ?_ A3)) A3;rcases H7 with ⟨a,b,g⟩|⟨g,l⟩
               ·subst g;exact qT rfl A3
               ·subst g;refine qF (by show ¬(2:Int)=1;decide) (qT rfl ?_)
                by_cases t:mIx [.str] v4 (.row [cl v i 9])<0
                ·rw [ifT t];exact A3
                ·rw [ifF t];exact qc (r0 (by omega) ⟨fun h=>by omega,fun _=>t,fun h=>by omega⟩) A3
              ·rw [ifF k12];exact A3
  ·exact qF S A3
end
end
end Mc
namespace Mc
open Go Go.AE
theorem P9 {M a b x:D}:upd (ad M (.row [a,b])) (len M:Int) 1 x=ad M (.row [a,x]):=by
 have h:∀l:List D,(l++[D.row [a,b]]).modify l.length (fun r=>D.row (r.cells.set 1 x))=l++[D.row [a,x]]:=fun l=>by
  induction l with
  |nil=>rfl
  |cons y l ih=>simp [List.modify_succ_cons,ih]
 show D.slc false ((M.rows++[D.row [a,b]]).modify (len M) _)=D.slc false _;rw [show len M=M.rows.length from rfl,h]
section
variable [Ao]
structure MM (M N:D):Prop where
 ints:∀r∈M.rows,∃x n,r=.row [x,.int n]
 bools:∀r∈N.rows,∃x b,r=.row [x,.bool b]
 same:∀k,mIx [.str] M (.row [k])<0↔mIx [.str] N (.row [k])<0
theorem MM.empty:MM Af Af:=⟨fun r l=>(by cases l),fun r l=>(by cases l),fun k=>Iff.rfl⟩
theorem Tv {M r s:D} (h:s∈(ad M r).rows):s∈M.rows∨s=r:=(ue.1 h).imp id vv.1
theorem MM.put {M N k:D} {n:Int} {b:Bool} (h:MM M N):MM (ad M (.row [k,.int n])) (ad N (.row [k,.bool b])):=by
 have h1:∀r∈M.rows,∃x l,r=.row (x::l):=fun r t=>by obtain ⟨x,n,e⟩:=h.ints r t;exact ⟨x,_,e⟩
 have h2:∀r∈N.rows,∃x l,r=.row (x::l):=fun r t=>by obtain ⟨x,n,e⟩:=h.bools r t;exact ⟨x,_,e⟩
 refine ⟨fun r t=>(Tv t).elim (h.ints r) fun e=>⟨_,_,e⟩,fun r t=>(Tv t).elim (h.bools r) fun e=>⟨_,_,e⟩,fun q=>?_⟩
 rw [Mr h1,Mr h2];have I:=h.same q;by_cases a1:0≤mIx [.str] M (.row [q])
 ·have J:0≤mIx [.str] N (.row [q]):=Int.not_lt.1 fun hh=>absurd (I.2 hh) (by omega)
  rw [if_pos a1,if_pos J];exact I
 ·have J:¬0≤mIx [.str] N (.row [q]):=fun hh=>a1 (Int.not_lt.1 fun h3=>absurd (I.1 h3) (by omega))
  rw [if_neg a1,if_neg J];by_cases a2:D.strEq k q=true
  ·rw [if_pos a2,if_pos a2];constructor<;>intro _<;>omega
  ·rw [if_neg a2,if_neg a2]
theorem YD {M:D} {i:Int} {c:Nat} (b:0≤i) (d:i<len M):∃r∈M.rows,cl M i c=sl r c:=by
 obtain ⟨n,rfl⟩:=y0 b;have a:n<M.rows.length:=by have:(n:Int)<len M:=d;unfold len at this;omega
 refine ⟨M.rows[n],Aei a,?_⟩;have e:M.rows.getD n default=M.rows[n]:=by simp [F2,a]
 show (M.rows.getD n default).cells.getD c default=(M.rows[n]).cells.getD c default;rw [e]
theorem MM.int {M N k:D} (h:MM M N) (hk:¬mIx [.str] M (.row [k])<0):∃n,cl M (mIx [.str] M (.row [k])) 1=.int n:=by
 have J:∀r∈M.rows,∃x l,r=.row (x::l):=fun r t=>by obtain ⟨x,n,e⟩:=h.ints r t;exact ⟨x,_,e⟩
 have I:mIx [.str] M (.row [k])<len M:=by
  rw [CJ J];have:=Ek (p:=fun i=>D.strEq (cl M i 0) k) (k:=len M) (i:=0);omega
 obtain ⟨r,t,e⟩:=YD (c:=1) (by omega) I
 obtain ⟨x,n,e2⟩:=h.ints r t;exact ⟨n,by rw [e,e2];rfl⟩
theorem MM.bool {M N k:D} (h:MM M N) (hk:¬mIx [.str] N (.row [k])<0):∃n,cl N (mIx [.str] N (.row [k])) 1=.bool n:=by
 have J:∀r∈N.rows,∃x l,r=.row (x::l):=fun r t=>by obtain ⟨x,n,e⟩:=h.bools r t;exact ⟨x,_,e⟩
 have I:mIx [.str] N (.row [k])<len N:=by
  rw [CJ J];have:=Ek (p:=fun i=>D.strEq (cl N i 0) k) (k:=len N) (i:=0);omega
 obtain ⟨r,t,e⟩:=YD (c:=1) (by omega) I
 obtain ⟨x,n,e2⟩:=h.bools r t;exact ⟨n,by rw [e,e2];rfl⟩
theorem Hh {M a b:D} (c:∀r∈M.rows,∃x l,r=.row (x::l)) (h:D.strEq a b=true):mIx [.str] M (.row [a])=mIx [.str] M (.row [b]):=by
 rw [CJ c,CJ c];refine CW fun j _ _=>?_
 rw [AR,Jm h,AR]
theorem MM.shape {M N:D} (h:MM M N):∀r∈M.rows,∃x l,r=.row (x::l):=fun r t=>by obtain ⟨x,n,e⟩:=h.ints r t;exact ⟨x,_,e⟩
def nms (l:List D):List D:=l.map fun x=>.row [x]
def RFi (v:D) (i:Nat):List D:=if kd v i=7∨kd v i=8∨kd v i=12 then [cl v i 9] else if kd v i=9 then (List.range (len (cl v i 12))).map fun (j:Nat)=>cl (cl v i 12) j 2 else []
def RF (v:D):Nat→List D
 |0=>[]
 |i+1=>RF v i++RFi v i
theorem aA {v r:D}:∀{n:Nat},r∈RF v n→∃i,i<n∧r∈RFi v i
 |n+1,h=>by
  rcases ue.1 h with c|c
  ·obtain ⟨i,a,b⟩:=aA c;exact ⟨i,by omega,b⟩
  ·exact ⟨n,by omega,c⟩
theorem Gb {v:D} (a:FT v):∀n:Nat,n≤len v→(RF v n).length≤10*n
 |0,_=>IqQ _
 |n+1,h=>by
  have:=Gb a n (by omega)
  have b:=a.len12 n (by omega)
  have:(RFi v n).length≤10:=by
   unfold RFi
   repeat' split
   all_goals simp
   all_goals omega
  rw [RF,la];omega
def R17 (v d:D):Prop:=∃l,d=.row [.int 1,l]∧l.rows=nms (RF v (len v))
theorem IV {l:List D} {a x:D} (h:a.rows=nms l):(ad a (.row [x])).rows=nms (l++[x]):=by
 show a.rows++[_]=_;rw [h];simp [nms]
theorem Zz {v:D} (n:FT v):∀k i (a:D) (b:Bool),i+k=len v→a.rows=nms (RF v i)→R17 v (HO v (.int (i:Nat)) a (.bool b))
 |0,i,a,b,h,d=>by
  have:i=len v:=h;subst this;rw [fQ,ifF (by omega)]
  exact ⟨_,rfl,d⟩
 |k+1,i,a,b,h,d=>by
  have few:=n.few;have y:=n.len12 i (by omega)
  have u:=Gb n i (by omega)
  have o:len a=(RF v i).length:=by unfold len;rw [d];simp [nms]
  have nx:∀c p,c.rows=nms (RF v (i+1))→R17 v (HO v (.int ((i+1:Nat):Int)) c (.bool p)):=fun c p h'=>Zz n k (i+1) c p (by omega) h'
  have e:kd v i=9→∀m j (a:D) (b:Bool),j+m=len (cl v i 12)→a.rows=nms (RF v i++(List.range j).map fun (q:Nat)=>cl (cl v i 12) q 2)→R17 v (V9 v (.int (i:Nat)) (cl v i 12) (.int (len (cl v i 12):Int)) (.int (j:Nat)) a (.bool b)):=by
   intro l m
   induction m with
   |zero=>
    intro j a b t d;have:j=len (cl v i 12):=t;subst this;rw [eK,ifF (by omega),AL (by omega)]
    refine nx a b ?_;rw [RF,RFi,if_neg (by omega),if_pos l];exact d
   |succ m ih=>
    intro j a b t d;have o:len a=(RF v i).length+j:=by unfold len;rw [d];simp [nms]
    rw [eK,ifT (by omega),ifF (by omega),ifT (by omega),ifT (by omega),AL (by omega)]
    refine ih (j+1) _ false (by omega) ?_
    rw [IV d,List.range_succ,List.map_append,Aeo];rfl
  have f:(len a:Int)<1073741824:=by omega
  have w:(cl v i 1).toInt=kd v i:=rfl;rw [fQ,ifT (by omega),ifF (by omega),AL (by omega),w]
  have st:kd v i=7∨kd v i=8∨kd v i=12→R17 v (HO v (.int ((i+1:Nat):Int)) (ad a (.row [(cl v i 9)])) (.bool false)):=fun x=>nx _ false (by rw [IV d,RF,RFi,if_pos x])
  by_cases r:kd v i=7
  ·rw [ifT r];exact qT f (st (.inl r))
  ·rw [ifF r];by_cases s:kd v i=8
   ·rw [ifT s];exact qT f (st (.inr (.inl s)))
   ·rw [ifF s];by_cases g:kd v i=12
    ·rw [ifT g];exact qT f (st (.inr (.inr g)))
    ·rw [ifF g];by_cases l:kd v i=9
     ·rw [ifT l];exact e l (len (cl v i 12)) 0 a b (by omega) (by rw [d];simp)
     ·rw [ifF l];exact nx a b (by rw [RF,RFi,if_neg (by omega),if_neg l,Aek];exact d)
theorem MJ {v0 v:D} (a:FT v):R17 v (AJ v0 v):=by
 rw [Aac];exact Zz a (len v) 0 BK true (by omega) rfl
theorem iF {v k:D} (h:len v≤1000000):Fx v k=.row [.int 1,.int (fdG (fun j=>D.strEq k (cl v j 0)) (len v) 0)]:=by
 rw [zb];refine find (F:=fun j=>OE v k (.int (j:Nat))) (bad:=fun i=>D.strEq k (cl v i 0)) (n:=len v) ?_ ?_
 ·intro j a;refine (?_:OE v k (.int ((j:Nat):Int))=_);rw [eL,ifT (by omega),ifF (by omega),AL (by omega)]
 ·refine (?_:OE v k (.int ((len v:Nat):Int))=_);rw [eL,ifF (by omega)]
theorem PA {l:D} {i:Nat} (n:len l≤1000) (hi:i<len l):∃z:Int,Fx (sb l 0 (i:Nat)) (cl l i 0)=.row [.int 1,.int z]∧(¬z<0→∃j:Nat,j<i∧D.strEq (cl l i 0) (cl l j 0)=true)∧(z<0→∀j:Nat,j<i→D.strEq (cl l i 0) (cl l j 0)=false):=by
 have d:len (sb l 0 (i:Nat))=i:=by rw [M8 (by simp) (by simp;omega)];simp
 refine ⟨_,iF (by rw [d];omega),fun c=>?_,fun c j f=>?_⟩
 ·rw [d] at c;have e:=E9 (p:=fun j=>D.strEq (cl l i 0) (cl (sb l 0 (i:Nat)) j 0)) (k:=i) (i:=0) (by omega)
  have g:=Ek (p:=fun j=>D.strEq (cl l i 0) (cl (sb l 0 (i:Nat)) j 0)) (k:=i) (i:=0)
  obtain ⟨m,h⟩:=y0 (show 0≤fdG (fun j=>D.strEq (cl l i 0) (cl (sb l 0 (i:Nat)) j 0)) i 0 by omega)
  rw [h] at e g;have a:m<i:=by omega
  have b:D.strEq (cl l i 0) (cl (sb l 0 (i:Nat)) m 0)=true:=e;rw [OQ (Nat.le_of_lt hi) a] at b;exact ⟨m,a,b⟩
 ·rw [d] at c;have:=Kp (p:=fun j=>D.strEq (cl l i 0) (cl (sb l 0 (i:Nat)) j 0)) (k:=i) (i:=0) (j:=j) (by omega) (.inr ⟨c,by omega⟩)
  have b:D.strEq (cl l i 0) (cl (sb l 0 (i:Nat)) j 0)=false:=this;rw [OQ (Nat.le_of_lt hi) f] at b;exact b
def dpM (M k:D):Int:=(cl M (mIx [.str] M (.row [k])) 1).toInt
def Kn (M k:D):Prop:=¬mIx [.str] M (.row [k])<0
def R19 (M l d:D):Prop:=∃b n,d=.row [.int 1,.bool b,.int n]∧0≤n∧∀j:Nat,j<len l→Kn M (cl l j 0)→dpM M (cl l j 0)≤n
section
variable {v0 v1 v2 v7 v8:D} {v5 v6:Int}
theorem ZR {l M N:D} (m:MM M N) (u:len l≤1000):∀k i (b:Bool) (n:Int),i+k=len l→0≤n→(∀j:Nat,j<i→Kn M (cl l j 0)→dpM M (cl l j 0)≤n)→R19 M l (DH l (.int (i:Nat)) v0 v1 v2 (.int v5) (.int v6) v7 v8 M N (.bool b) (.int n))
 |0,i,b,n,h,v,q=>by
  have:i=len l:=h;subst this;rw [fg,ifF (by omega)]
  exact ⟨_,_,rfl,v,q⟩
 |k+1,i,b,n,h,v,q=>by
  obtain ⟨z,y,r,_⟩:=PA (l:=l) (i:=i) u (by omega)
  have nx:∀s d,n≤d→(Kn M (cl l i 0)→dpM M (cl l i 0)≤d)→R19 M l (DH l (.int ((i+1:Nat):Int)) v0 v1 v2 (.int v5) (.int v6) v7 v8 M N (.bool s) (.int d)):=fun s d A hi=>ZR m u k (i+1) s d (by omega) (by omega) fun j w f=>by
   rcases gg j i with o|o
   ·have:=q j o f;omega
   ·have:j=i:=by omega
    subst this;exact hi f
  rw [fg,ifT (by omega),ifF (by omega),ifF (by omega),y,AL (by omega)]
  refine qT rfl ?_;refine (?_:R19 M l (cond (decide (z<0)) _ _));by_cases g:z<0
  ·rw [ifT g];by_cases m1:mIx [.str] M (.row [cl l i 0])<0
   ·have m2:=(m.same _).1 m1;have no:∀d,Kn M (cl l i 0)→dpM M (cl l i 0)≤d:=fun d f=>absurd m1 f
    rw [ifT m1];rw [ifF (by omega)]
    exact qc (qT m2 (nx _ _ (by omega) (no _))) (nx _ _ (by omega) (no _))
   ·obtain ⟨a,x⟩:=m.int m1;have m2:¬mIx [.str] N (.row [cl l i 0])<0:=fun h=>m1 ((m.same _).2 h)
    obtain ⟨c,B⟩:=m.bool m2;have E:dpM M (cl l i 0)=a:=by unfold dpM;rw [x];rfl
    rw [ifF m1,x,B];refine (?_:R19 M l (cond (decide (n<a)) _ _));by_cases p:n<a
    ·rw [ifT p];have le:Kn M (cl l i 0)→dpM M (cl l i 0)≤a:=fun _=>by omega
     exact qc (qF m2 (nx _ _ (by omega) le)) (nx _ _ (by omega) le)
    ·rw [ifF p];have le:Kn M (cl l i 0)→dpM M (cl l i 0)≤n:=fun _=>by omega
     exact qc (qF m2 (nx _ _ (by omega) le)) (nx _ _ (by omega) le)
  ·rw [ifF g];obtain ⟨j,w,C⟩:=r g;refine nx _ _ (by omega) fun f=>?_
   have e:=Hh m.shape C;have t:Kn M (cl l j 0):=by unfold Kn at f ⊢;rw [←e];exact f
   have:=q j w t;unfold dpM at this ⊢;rw [e];exact this
theorem iK {l M N:D} {b:Bool} (a:MM M N) (c:len l≤1000):R19 M l (UW v0 v1 v2 M N (.int v5) (.int v6) v7 v8 (.bool b) (.int 0) l):=by
 rw [we];exact ZR a c (len l) 0 b 0 (by omega) (by omega) fun j d=>absurd d (hH _)
end
structure FO (v:D):Prop where
 ft:FT v
 ex:∀i,i<len v→EX v i
def Q20 (nm v M N d:D):Prop:=(∃a b c e x y f g,d=.row [.int 1,.int a,.int b,.int c,.int e,x,y,f,g])∨
 (∃(b:Bool) (n:Int),d=.row [.int 2,nm,v,ad M (.row [nm,.int (n+1)]),ad N (.row [nm,.bool b])]∧0≤n∧n<16∧BO nm=true∧FO v∧¬Kn M nm∧∀r∈RF v (len v),Kn M r∧dpM M r≤n)
section
variable {v0 v1 v2 v7 v8 nm:D} {v5 v6:Int}
theorem RX.kn {M N v r:D} {i:Nat} (I:MM M N) (h:RX M N v i) (l:r∈RFi v i):Kn M r:=by
 obtain ⟨t,J,h3⟩:=h;unfold RFi at l;split at l
 ·rename_i hk;cases vv.1 l;rcases hk with k7|k8|k12
  ·exact t (.inl k7)
  ·exact t (.inr k8)
  ·exact fun hh=>J k12 ((I.same _).1 hh)
 ·split at l
  ·rename_i k9;obtain ⟨j,hj,rfl⟩:=List.mem_map.1 l;exact h3 k9 j (List.mem_range.1 hj)
  ·cases l
theorem E6 {l:D} {L:List D} (h:l.rows=nms L) {j:Nat} (a:j<L.length):cl l j 0=L[j]:=by
 unfold cl;rw [h];simp [nms,F2,a,D.cells]
theorem Xw {v M N:D} (x:MM M N) (m:FT v) (s:BO nm=true) (y:mIx [.str] M (.row [nm])<0):∀k i (z:Int) (b:Bool),i+k=len v→(∀j,j<i→EX v j∧RX M N v j)→Q20 nm v M N (Oy v (.int (i:Nat)) v0 v1 v2 (.int v5) (.int z) nm M N (.bool b))
 |0,i,z,b,h,d=>by
  have:i=len v:=h;subst this;obtain ⟨l,K,f⟩:=MJ (v0:=nm) m;have few:=m.few;have L:=Gb m (len v) (IqQ _);have H:len l=(RF v (len v)).length:=by show l.rows.length=_;rw [f];simp [nms]
  obtain ⟨n,t,B,C,E⟩:=iK (v0:=v0) (v1:=v1) (v2:=v2) (v5:=v5) (v6:=-1) (v7:=nm) (v8:=v) (b:=b) x (l:=l) (by omega)
  have u:UW v0 v1 v2 M N (.int v5) (.int (-1)) nm v (.bool b) (.int 0) (sl (.row [.int 1,l]) 1)=.row [.int 1,.bool n,.int t]:=B;rw [fJ _ _ _ _ _ _ _ _ _ _ _ rfl rfl,ifF (by omega),K,u]
  refine qT rfl (qT rfl (qT y (qT ((x.same nm).1 y) ?_)));refine (?_:Q20 nm v M N (cond (decide (t<16)) _ _));by_cases o:t<16
  ·rw [ifT o,P9,P9];refine .inr ⟨n,t,?_,C,o,s,⟨m,fun j I=>(d j I).1⟩,fun A=>A y,fun r J=>?_⟩
   ·refine (?_:D.row [.int 2,nm,v,ad M (.row [nm,.int (wrap .i64 (t+1))]),ad N (.row [nm,.bool n])]=_);rw [AM (by omega) (by omega)]
   ·obtain ⟨i,hi,F⟩:=aA J;have A:=(d i hi).2.kn x F;obtain ⟨q,O,p⟩:=ud J;have e:cl l q 0=r:=by rw [E6 f O];exact p
    refine ⟨A,?_⟩;have:=E q (by omega) (by rw [e];exact A)
    rw [e] at this;exact this
  ·rw [ifF o];exact .inl ⟨_,_,_,_,_,_,_,_,rfl⟩
 |k+1,i,z,b,h,d=>by
  have few:=m.few
  have nx:∀(G:Int) (n:Bool),EX v i∧RX M N v i→Q20 nm v M N (Oy v (.int ((i+1:Nat):Int)) v0 v1 v2 (.int v5) (.int G) nm M N (.bool n)):=fun G n p=>Xw x m s y k (i+1) G n (by omega) fun j I=>by
   rcases gg j i with w|w
   ·exact d j w
   ·have:j=i:=by omega
    subst this;exact p
  have P:DN v i:=fun j q Q R=>(d q R).1.new j Q
  rw [fJ _ _ _ _ _ _ _ _ _ _ _ rfl rfl,ifT (by omega),ifF (by omega),AL (by omega)]
  rcases jv (v0:=v0) (v1:=v1) (v2:=v2) (v3:=M) (v4:=N) (v5:=v5) (v7:=nm) m (i:=i) (by omega) P with ⟨a,c,e,g⟩|⟨g,p⟩
  ·rw [g];exact qT rfl (.inl ⟨_,_,_,_,_,_,_,_,rfl⟩)
  ·rw [g];refine qF (by show ¬(2:Int)=1;decide) (qT rfl (qc (nx _ _ p) (nx _ _ p)))
theorem jX {v M N:D} (d:MM M N) (c:FT v):Q20 nm v M N (ZJ v0 v1 v2 M N (.int v5) (.int v6) v7 v8 nm v):=by
 have few:=c.few;rw [py,Wg];refine qT rfl ?_;refine (?_:Q20 nm v M N (cond (BO nm) _ _));cases a:BO nm with
 |false=>exact .inl ⟨_,_,_,_,_,_,_,_,rfl⟩
 |true=>
 rw [qs];by_cases b:mIx [.str] M (.row [nm])<0
 ·rw [ifT b];exact qc (.inl ⟨_,_,_,_,_,_,_,_,rfl⟩) (qc (.inl ⟨_,_,_,_,_,_,_,_,rfl⟩) (Xw d c a b (len v) 0 (-1) true (by omega) fun j e=>absurd e (hH _)))
 ·rw [ifF b];exact .inl ⟨_,_,_,_,_,_,_,_,rfl⟩
end
def nmI (a:D) (i:Nat):D:=cl a i 0
def fsI (a:D) (i:Nat):D:=cl a i 1
def ixN (a:D) (n:Nat) (k:D):Int:=fdG (fun i=>D.strEq (nmI a i) k) n 0
structure GP (ms:D) (n:Nat) (M:D) (dp:Nat→Int):Prop where
 rows:M.rows=(List.range n).map fun i=>.row [nmI ms i,.int (dp i)]
 low:∀i,i<n→1≤dp i∧dp i≤16
 refs:∀i,i<n→∀r∈RF (fsI ms i) (len (fsI ms i)),∃j,j<i∧D.strEq (nmI ms j) r=true∧dp j<dp i
 dist:∀j k,j<k→k<n→D.strEq (nmI ms j) (nmI ms k)=false
 fo:∀i,i<n→FO (fsI ms i)
 nb:∀i,i<n→BO (nmI ms i)=true
theorem GP.ln {l M:D} {n:Nat} {r:Nat→Int} (h:GP l n M r):len M=n:=by unfold len;rw [h.rows];simp
theorem GP.shape {I M:D} {n:Nat} {J:Nat→Int} (h:GP I n M J):∀r∈M.rows,∃x l,r=.row (x::l):=fun r t=>by
 rw [h.rows] at t;obtain ⟨i,_,rfl⟩:=List.mem_map.1 t;exact ⟨_,_,rfl⟩
theorem GP.cell {l M:D} {n:Nat} {r:Nat→Int} (h:GP l n M r) {i:Nat} (hi:i<n):cl M i 0=nmI l i∧cl M i 1=.int (r i):=by
 unfold cl;rw [h.rows];simp [F2,hi,D.cells]
theorem GP.ix {l M k:D} {n:Nat} {r:Nat→Int} (h:GP l n M r):mIx [.str] M (.row [k])=ixN l n k:=by
 rw [CJ h.shape,h.ln];exact CW fun j _ t=>by rw [(h.cell (by omega)).1]
theorem GP.at {l M k:D} {n:Nat} {t:Nat→Int} (h:GP l n M t) (I:Kn M k):∃j,j<n∧ixN l n k=j∧D.strEq (nmI l j) k=true∧dpM M k=t j:=by
 unfold Kn at I;rw [h.ix] at I;obtain ⟨j,r⟩:=y0 (show 0≤ixN l n k by omega)
 have J:=E9 (p:=fun i=>D.strEq (nmI l i) k) (k:=n) (i:=0) (by unfold ixN at r;omega)
 have h2:=Ek (p:=fun i=>D.strEq (nmI l i) k) (k:=n) (i:=0)
 unfold ixN at r;rw [r] at J h2;refine ⟨j,by omega,r,J,?_⟩
 unfold dpM;rw [h.ix];unfold ixN;rw [r,(h.cell (by omega)).2];rfl
theorem GP.empty {l:D} {r:Nat→Int}:GP l 0 Af r:=⟨rfl,fun i hi=>absurd hi (hH _),fun i hi=>absurd hi (hH _),fun j k _ t=>absurd t (hH _),fun i hi=>absurd hi (hH _),fun i hi=>absurd hi (hH _)⟩
theorem GP.next {l M:D} {n:Nat} {dp:Nat→Int} (h:GP l n M dp) {d:Int} (hd:0≤d∧d<16) (al:BO (nmI l n)=true) (an:FO (fsI l n)) (t:¬Kn M (nmI l n)) (hr:∀r∈RF (fsI l n) (len (fsI l n)),Kn M r∧dpM M r≤d) :
  GP l (n+1) (ad M (.row [nmI l n,.int (d+1)])) fun i=>if i=n then d+1 else dp i:=by
 have ar:∀j,j<n→D.strEq (nmI l j) (nmI l n)=false:=fun j J=>by
  unfold Kn at t;rw [h.ix] at t;exact Kp (p:=fun i=>D.strEq (nmI l i) (nmI l n)) (k:=n) (i:=0) (by omega) (.inr ⟨by unfold ixN at t;omega,by omega⟩)
 refine ⟨?_,fun i hi=>?_,fun i hi r I=>?_,fun j k h1 h2=>?_,fun i hi=>?_,fun i hi=>?_⟩
 ·show M.rows++[_]=_;rw [h.rows,List.range_succ,List.map_append]
  congr 1
  ·refine List.map_congr_left fun i hi=>?_
   have:=List.mem_range.1 hi;rw [if_neg (by omega)]
  ·simp
 ·by_cases e:i=n
  ·rw [if_pos e];omega
  ·rw [if_neg e];exact h.low i (by omega)
 ·by_cases e:i=n
  ·subst e;obtain ⟨hk,bd⟩:=hr r I;obtain ⟨j,J,_,hs,be⟩:=h.at hk;refine ⟨j,J,hs,?_⟩;rw [if_neg (by omega),if_pos rfl];omega
  ·obtain ⟨j,J,hs,av⟩:=h.refs i (by omega) r I
   refine ⟨j,J,hs,?_⟩;rw [if_neg (by omega),if_neg e];exact av
 ·by_cases e:k=n
  ·subst e;exact ar j h1
  ·exact h.dist j k h1 (by omega)
 ·by_cases e:i=n
  ·subst e;exact an
  ·exact h.fo i (by omega)
 ·by_cases e:i=n
  ·subst e;exact al
  ·exact h.nb i (by omega)
def Good (a st M N:D) (b:Nat→Int):Prop:=GP a (len a) M b∧MM M N∧Kn M st
def Q21 (v2 e st d:D):Prop:=(∃c r,d=.row (.int 1::.int c::r))∨(∃a b c r,d=.row (.int 2::.int a::.int b::.int c::.bool true::r))∨
 (∃x y M N f,d=.row [.int 2,.int 0,.int 0,.int 0,.bool false,v2,e,st,.int (-1),.int (-1),x,y,M,N]∧Good e st M N f)
theorem aa {d v2 st:D} (u:len d≤1000) (t:∀m:Nat,m<len d→FT (cl d m 1)):∀k i (z:Int) (x y M N:D) (j:Nat→Int),i+k=len d→MM M N→GP d i M j→Q21 v2 d st (VN d (.int (i:Nat)) v2 st (.int z) x y M N)
 |0,i,z,x,y,M,N,j,h,l,o=>by
  have:i=len d:=h;subst this;rw [fy _ _ _ _ _ _ _ _ _ rfl,ifF (by omega)]
  by_cases p:mIx [.str] M (.row [st])<0
  ·rw [ifT p];exact .inr (.inl ⟨_,_,_,_,rfl⟩)
  ·rw [ifF p];exact .inr (.inr ⟨_,_,_,_,j,rfl,o,l,p⟩)
 |k+1,i,z,x,y,M,N,j,h,l,o=>by
  rw [fy _ _ _ _ _ _ _ _ _ rfl,ifT (by omega),ifF (by omega),AL (by omega)]
  rcases jX (v0:=v2) (v1:=d) (v2:=st) (v5:=(i:Nat)) (v6:=-1) (v7:=x) (v8:=y) (nm:=cl d i 0) l (t i (by omega)) with ⟨a,b,c,e,A,B,C,E,g⟩|⟨b,n,g,v,q,r,s,f,w⟩
  ·rw [g];exact qT rfl (.inr (.inl ⟨_,_,_,_,rfl⟩))
  ·rw [g];refine qF (by show ¬(2:Int)=1;decide) (qT rfl ?_)
   exact aa u t k (i+1) _ _ _ _ _ _ (by omega) l.put (o.next ⟨v,q⟩ r s f w)
theorem jw {v0 a st:D} (b:len a≤1000) (c:∀m:Nat,m<len a→FT (cl a m 1)):Q21 v0 a st (Gs v0 a st):=by
 rw [zJ,Wg];refine qT rfl (qc ?_ (.inl ⟨_,_,rfl⟩));exact qc (.inl ⟨_,_,rfl⟩) (qc (.inl ⟨_,_,rfl⟩) (aa b c (len a) 0 (-1) _ _ _ _ (fun _=>0) (by omega) MM.empty GP.empty))
def Q22 (v0 e st d:D):Prop:=(∃a b c:Int,d=.row [.int 1,.int a,.int b,.int c,.bool true])∨
 (d=.row [.int 1,.int 0,.int 0,.int 0,.bool false]∧∃x y M N f,Gs v0 e st=.row [.int 2,.int 0,.int 0,.int 0,.bool false,v0,e,st,.int (-1),.int (-1),x,y,M,N]∧Good e st M N f)
theorem iM {v0 ms st:D} (d:len ms≤1000) (e:∀m:Nat,m<len ms→FT (cl ms m 1)):Q22 v0 ms st (HG v0 ms st):=by
 rw [fu];rcases jw (v0:=v0) (st:=st) d e with ⟨c,r,g⟩|⟨a,b,c,r,g⟩|⟨x,y,M,N,f,g,h⟩
 ·rw [g];exact qT rfl (.inl ⟨_,_,_,rfl⟩)
 ·rw [g];exact qF (by show ¬(2:Int)=1;decide) (qT rfl (.inl ⟨_,_,_,rfl⟩))
 ·rw [g];exact qF (by show ¬(2:Int)=1;decide) (qT rfl (.inr ⟨rfl,x,y,M,N,f,g,h⟩))
end
end Mc
namespace Mc
open Go Go.AE
theorem FQ {x y:Int} (a:y≠0) (b:0≤x):ari .rem .i64 x y=x%y:=by
 have c:(y==0)=false:=by simpa using a
 have e:ari .rem .i64 x y=x.tmod y:=by
  show (match (match y==0 with|true=>none|false=>some (AV.int .i64 (x.tmod y))) with|some (.int _ n)=>n|_=>0)=_
  rw [c]
 rw [e,Int.tmod_eq_emod_of_nonneg b]
theorem bq {x y:Int} (b:0<y) (a:0≤x) (d:x<4611686018427387904):ari .quo .i64 x y=x/y:=by
 have c:(y==0)=false:=by simpa using Int.ne_of_gt b
 have e:ari .quo .i64 x y=wrap .i64 (x.tdiv y):=by
  show (match (match y==0 with|true=>none|false=>some (AV.int .i64 (wrap .i64 (x.tdiv y)))) with|some (.int _ n)=>n|_=>0)=_
  rw [c]
 have f:0≤x/y:=Int.ediv_nonneg a (Int.le_of_lt b);have g:x/y≤x:=Int.ediv_le_self _ a;rw [e,Int.tdiv_eq_ediv_of_nonneg a,AM (by omega) (by omega)]
def stp (k b o:Int):Int:=if k=1∨k=2 then (o+b)%8 else if k=10 then (if b=2 then ((o+1)/2*2)%8 else if b=4 then ((o+3)/4*4)%8 else 0) else 0
def bt (v:D) (i:Int):Int:=(cl v i 2).toInt
def off (v:D):Nat→Int
 |0=>0
 |i+1=>stp (kd v i) (bt v i) (off v i)
theorem VS {k b o:Int} (h:0≤o∧o≤7):0≤stp k b o∧stp k b o≤7:=by
 unfold stp
 repeat' split
 all_goals omega
theorem VU {v:D}:∀i,0≤off v i∧off v i≤7
 |0=>⟨Aeg _,(by decide:(0:Int)≤7)⟩
 |i+1=>VS (VU i)
theorem fe {o b:Int} (h:0≤o∧o≤7) (e:b=2∨b=4∨(8≤b∧b≤512∧ari .rem .i64 b 8=0)):ari .rem .i64 (wrap .i64 ((ari .quo .i64 (wrap .i64 ((wrap .i64 (o+b))-1)) b)*b)) 8=stp 10 b o:=by
 have d:stp 10 b o=if b=2 then ((o+1)/2*2)%8 else if b=4 then ((o+3)/4*4)%8 else 0:=rfl
 have c:0<b:=by omega
 have f:b≤512:=by omega
 rw [AM (a:=o+b) (by omega) (by omega),AM (a:=o+b-1) (by omega) (by omega),bq c (by omega) (by omega),d]
 rcases e with rfl|rfl|⟨g,i,b3⟩
 ·rw [AM (by omega) (by omega),FQ (by decide) (by omega),if_pos rfl,show o+2-1=o+1 by omega]
 ·rw [AM (by omega) (by omega),FQ (by decide) (by omega),if_neg (by decide),if_pos rfl,show o+4-1=o+3 by omega]
 ·rw [FQ (by decide) (by omega)] at b3
  rw [if_neg (by omega),if_neg (by omega)]
  by_cases j:o=0
  ·have:(o+b-1)/b=0:=((Int.ediv_emod_unique c (q:=0) (r:=o+b-1)).2 ⟨by omega,by omega,by omega⟩).1
   rw [this,Int.zero_mul];rfl
  ·have:(o+b-1)/b=1:=((Int.ediv_emod_unique c (q:=1) (r:=o-1)).2 ⟨by omega,by omega,by omega⟩).1
   rw [this,Int.one_mul,AM (by omega) (by omega),FQ (by decide) (by omega),b3]
section
variable [Ao]
def R12 (d:D):Prop:=(∃x:Int,d=.row [.int 1,.int x])∨d=.row [.int 2]
theorem Q7 {v:D} {i q:Int} {n:Nat} {z:Int} (a:FO v) (hi:i=(n:Nat)) (c:n<len v) (d:i≠q):HF (.int (off v n)) v (.int i) (.int q) (.int z)=HF (.int (off v (n+1))) v (.int ((n+1:Nat):Int)) (.int q) (.int z):=by
 subst hi;have k12:kd v n=1∨kd v n=2→1≤bt v n∧bt v n≤32:=(a.ex n c).k12;have k10:kd v n=10→bt v n=2∨bt v n=4∨(8≤bt v n∧bt v n≤512∧ari .rem .i64 (bt v n) 8=0):=(a.ex n c).k10;have e:=VU (v:=v) n;have few:=a.ft.few;rw [UQ,ifT (by omega),ifF (by omega),ifF d,AL (by omega),off]
 have f:(cl v n 1).toInt=kd v n:=rfl;have b:(cl v n 2).toInt=bt v n:=rfl;rw [f,b];by_cases k1:kd v n=1
 ·have:=k12 (.inl k1);rw [ifT k1,AM (by omega) (by omega),FQ (by decide) (by omega),show stp (kd v n) (bt v n) (off v n)=(off v n+bt v n)%8 by unfold stp;rw [if_pos (.inl k1)]]
 ·rw [ifF k1];by_cases k2:kd v n=2
  ·have:=k12 (.inr k2);rw [ifT k2,AM (by omega) (by omega),FQ (by decide) (by omega),show stp (kd v n) (bt v n) (off v n)=(off v n+bt v n)%8 by unfold stp;rw [if_pos (.inr k2)]]
  ·rw [ifF k2];by_cases k3:kd v n=10
   ·have b:=k10 k3;rw [ifT k3,ifF (by omega),fe e b,k3]
   ·rw [ifF k3,show stp (kd v n) (bt v n) (off v n)=0 by unfold stp;rw [if_neg (by omega),if_neg k3]]
theorem Xv {v:D} {q z:Int} (a:FO v):∀k n,n+k=len v→R12 (HF (.int (off v n)) v (.int (n:Nat)) (.int q) (.int z))
 |0,n,h=>by
  have:n=len v:=h;subst this;rw [UQ,ifF (by omega)]
  exact qc (.inl ⟨_,rfl⟩) (.inr rfl)
 |k+1,n,h=>by
  by_cases b:(n:Int)=q
  ·rw [UQ,ifT (by omega),ifF (by omega),ifT b];exact .inl ⟨_,rfl⟩
  ·rw [Q7 a rfl (by omega) b];exact Xv a k (n+1) (by omega)
theorem dN {v:D} {q z:Int} (a:FO v):R12 (DC (.int q) (.int z) v):=by
 rw [eG];exact Xv a (len v) 0 (by omega)
theorem ju {v:D} {q:Nat} {z:Int} (a:FO v) (c:q≤len v):DC (.int (q:Nat)) (.int z) v=.row [.int 1,.int (off v q)]:=by
 rw [eG]
 have b:∀k n,n+k=q→HF (.int (off v n)) v (.int (n:Nat)) (.int (q:Nat)) (.int z)=.row [.int 1,.int (off v q)]:=by
  intro k
  induction k with
  |zero=>
   intro n h;have:n=q:=h;subst this;rw [UQ];by_cases d:n<len v
   ·rw [ifT (by omega),ifF (by omega),ifT rfl]
   ·rw [ifF (by omega),ifT (by omega)]
  |succ k ih=>
   intro n h;rw [Q7 a rfl (by omega) (by omega)]
   exact ih (n+1) (by omega)
 exact b q 0 (by omega)
theorem X4 {v:D} {i:Nat} {o:Int} (a:FO v) (hi:i≤len v):IsB (Es v (.int (i:Nat)) (.int o)):=by
 have few:=a.ft.few;rw [vJ,XG (by omega)]
 refine (?_:IsB (cond (decide ((i:Int)=len v)) _ (cond _ _ (cond _ (cond _ (cond _ (cond _ (cond _ (cond (decide ((sl (DC (.int 0) (.int 0) v) 0).toInt=1)) _ _) _) (cond _ (cond (decide ((sl (DC (.int (fld v (cl v i 11))) (.int 0) v) 0).toInt=1)) _ _) _)) _) _) _))))
 have t1:∀(q:Int),IsB (cond (decide ((sl (DC (.int q) (.int 0) v) 0).toInt=1)) (cond (decide ((sl (DC (.int q) (.int 0) v) 1).toInt=0)) (.row [.int 1,(.bool false)]) (.row [.int 1,(.bool true)])) (cond (decide ((sl (DC (.int q) (.int 0) v) 0).toInt=2)) (.row [.int 1,(.bool false)]) (.row []))):=fun q=>by
  rcases dN (q:=q) (z:=0) a with ⟨x,g⟩|g
  ·rw [g];exact qT rfl (qc ⟨_,rfl⟩ ⟨_,rfl⟩)
  ·rw [g];exact qF (by show ¬(2:Int)=1;decide) (qT rfl ⟨_,rfl⟩)
 by_cases h:(i:Int)=len v
 ·exact qT h ⟨_,rfl⟩
 ·refine qF h (qF (by omega) (qT (by omega) (qc (qT rfl (qc (qc (t1 _) ⟨_,rfl⟩) (qc (t1 _) ⟨_,rfl⟩))) ?_)))
  have t2:IsB (cond (decide ((sl (.row [.int 1,.int (fld v (cl v i 11))]) 0).toInt=1)) (cond (decide ((sl (.row [.int 1,.int (fld v (cl v i 11))]) 1).toInt<0)) (.row [.int 1,(.bool false)]) (.row [.int 1,(.bool false)])) (.row [])):=qT rfl (qc ⟨_,rfl⟩ ⟨_,rfl⟩);exact qc (qc ⟨_,rfl⟩ t2) (qc (qc ⟨_,rfl⟩ t2) (qc (qc ⟨_,rfl⟩ t2) ⟨_,rfl⟩))
def R26 (d:D):Prop:=(∃a b:Int,d=.row [.int 1,.int a,.int b,.bool true])∨d=.row [.int 2,.bool false]
theorem Y0 {v nm:D} {a b c z:Int} (d:FO v):∀k n (t:Bool) (o:Int),n+k=len v→0≤o∧o≤7→R26 (EH (.int o) v (.int (n:Nat)) (.int a) (.int b) (.int c) (.bool t) (.int z) nm v)
 |0,n,t,o,h,f=>by
  have:n=len v:=h;subst this;obtain ⟨x,g⟩:=X4 (i:=len v) (o:=o) d (IqQ _);rw [eD,ifF (by omega),g]
  refine qT rfl ?_;cases x with
  |true=>
   refine (?_:R26 (cond true _ _));rw [qs];exact qc (.inl ⟨_,_,rfl⟩) (.inl ⟨_,_,rfl⟩)
  |false=>exact .inr rfl
 |k+1,n,t,o,h,f=>by
  have few:=d.ft.few;have k12:kd v n=1∨kd v n=2→1≤bt v n∧bt v n≤32:=(d.ex n (by omega)).k12
  have k10:kd v n=10→bt v n=2∨bt v n=4∨(8≤bt v n∧bt v n≤512∧ari .rem .i64 (bt v n) 8=0):=(d.ex n (by omega)).k10
  obtain ⟨x,g⟩:=X4 (i:=n) (o:=o) d (by omega)
  rw [eD,ifT (by omega),ifF (by omega),g,AL (by omega)]
  refine qT rfl ?_;cases x with
  |true=>
   refine (?_:R26 (cond true _ _));rw [qs];exact qc (.inl ⟨_,_,rfl⟩) (.inl ⟨_,_,rfl⟩)
  |false=>
   refine (?_:R26 (cond false _ (cond (decide (kd v n=1)) (EH _ _ _ _ _ _ (.bool false) _ _ _) (cond (decide (kd v n=2)) (EH _ _ _ _ _ _ (.bool false) _ _ _) (cond (decide (kd v n=10)) (cond (decide (bt v n=0)) _ (EH _ _ _ _ _ _ (.bool false) _ _ _)) (EH _ _ _ _ _ _ (.bool false) _ _ _))))));rw [lp];have nx:∀e,0≤e∧e≤7→R26 (EH (.int e) v (.int ((n+1:Nat):Int)) (.int a) (.int b) (.int c) (.bool false) (.int z) nm v):=fun e j=>Y0 d k (n+1) false e (by omega) j
   have l:kd v n=1∨kd v n=2→ari .rem .i64 (wrap .i64 (o+bt v n)) 8=(o+bt v n)%8:=fun m=>by
    have:=k12 m;rw [AM (by omega) (by omega),FQ (by decide) (by omega)]
   by_cases k1:kd v n=1
   ·refine qT k1 ?_;show R26 (EH (.int (ari .rem .i64 (wrap .i64 (o+bt v n)) 8)) _ _ _ _ _ _ _ _ _);rw [l (.inl k1)];exact nx _ (by omega)
   ·refine qF k1 ?_;by_cases k2:kd v n=2
    ·refine qT k2 ?_;show R26 (EH (.int (ari .rem .i64 (wrap .i64 (o+bt v n)) 8)) _ _ _ _ _ _ _ _ _);rw [l (.inr k2)];exact nx _ (by omega)
    ·refine qF k2 ?_;by_cases k3:kd v n=10
     ·have p:bt v n=2∨bt v n=4∨(8≤bt v n∧bt v n≤512∧ari .rem .i64 (bt v n) 8=0):=k10 k3;refine qT k3 (qF (by omega) ?_)
      show R26 (EH (.int (ari .rem .i64 (wrap .i64 ((ari .quo .i64 (wrap .i64 ((wrap .i64 (o+bt v n))-1)) (bt v n))*(bt v n))) 8)) _ _ _ _ _ _ _ _ _);rw [fe f p];exact nx _ (VS f)
     ·exact qF k3 (nx 0 (by omega))
theorem Gg {v nm:D} {a b c z:Int} {t:Bool} (d:FO v):R26 (Gq (.int a) (.int b) (.int c) (.bool t) (.int z) nm v v):=by
 rw [sA];exact Y0 d (len v) 0 t 0 (by omega) (by omega)
end
end Mc
namespace Mc
open Go Go.AE
section
variable [Ao]
def Q26 (d:D):Prop:=∃(a b c:Int) (t:Bool),d=.row [.int 1,.int a,.int b,.int c,.bool t]
theorem n21:¬(sl (.row [.int 2,.bool false]) 0).toInt=1:=by show ¬(2:Int)=1;decide
theorem lL {v0 d e:D} {a b c:Int} (f:HG v0 d e=.row [.int 1,.int a,.int b,.int c,.bool false]) (u:len d≤9) (l:∀m:Nat,m<len d→FO (cl d m 1)):Q26 (OH v0 d e):=by
 by_cases c0:(0:Int)<len d
 ·rcases Gg (nm:=cl d 0 0) (a:=a) (b:=b) (c:=c) (z:=0) (t:=false) (l 0 (by omega)) with ⟨p,q,g⟩|g
  ·rw [C4 v0 d e f g rfl rfl rfl rfl rfl rfl rfl rfl rfl];refine qT rfl ?_;refine (?_:Q26 (cond false _ _));rw [lp];exact qT c0 (qT rfl ⟨_,_,_,_,rfl⟩)
  ·by_cases c1:(1:Int)<len d
   ·rcases Gg (nm:=cl d 1 0) (a:=a) (b:=b) (c:=c) (z:=1) (t:=false) (l 1 (by omega)) with ⟨p,q,h⟩|h
    ·rw [C4 v0 d e f g h rfl rfl rfl rfl rfl rfl rfl rfl];refine qT rfl ?_;refine (?_:Q26 (cond false _ _));rw [lp];exact qT c0 (qF n21 (qT rfl (qT c1 (qT rfl ⟨_,_,_,_,rfl⟩))))
    ·by_cases c2:(2:Int)<len d
     ·rcases Gg (nm:=cl d 2 0) (a:=a) (b:=b) (c:=c) (z:=2) (t:=false) (l 2 (by omega)) with ⟨p,q,i⟩|i
      ·rw [C4 v0 d e f g h i rfl rfl rfl rfl rfl rfl rfl];refine qT rfl ?_;refine (?_:Q26 (cond false _ _));rw [lp];exact qT c0 (qF n21 (qT rfl (qT c1 (qF n21 (qT rfl (qT c2 (qT rfl ⟨_,_,_,_,rfl⟩)))))))
      ·by_cases c3:(3:Int)<len d
       ·rcases Gg (nm:=cl d 3 0) (a:=a) (b:=b) (c:=c) (z:=3) (t:=false) (l 3 (by omega)) with ⟨p,q,j⟩|j
        ·rw [C4 v0 d e f g h i j rfl rfl rfl rfl rfl rfl];refine qT rfl ?_;refine (?_:Q26 (cond false _ _));rw [lp];exact qT c0 (qF n21 (qT rfl (qT c1 (qF n21 (qT rfl (qT c2 (qF n21 (qT rfl (qT c3 (qT rfl ⟨_,_,_,_,rfl⟩))))))))))
        ·by_cases c4:(4:Int)<len d
         ·rcases Gg (nm:=cl d 4 0) (a:=a) (b:=b) (c:=c) (z:=4) (t:=false) (l 4 (by omega)) with ⟨p,q,k⟩|k
          ·rw [C4 v0 d e f g h i j k rfl rfl rfl rfl rfl];refine qT rfl ?_;refine (?_:Q26 (cond false _ _));rw [lp];exact qT c0 (qF n21 (qT rfl (qT c1 (qF n21 (qT rfl (qT c2 (qF n21 (qT rfl (qT c3 (qF n21 (qT rfl (qT c4 (qT rfl ⟨_,_,_,_,rfl⟩)))))))))))))
          ·by_cases c5:(5:Int)<len d
           ·rcases Gg (nm:=cl d 5 0) (a:=a) (b:=b) (c:=c) (z:=5) (t:=false) (l 5 (by omega)) with ⟨p,q,n⟩|n
            ·rw [C4 v0 d e f g h i j k n rfl rfl rfl rfl];refine qT rfl ?_;refine (?_:Q26 (cond false _ _));rw [lp];exact qT c0 (qF n21 (qT rfl (qT c1 (qF n21 (qT rfl (qT c2 (qF n21 (qT rfl (qT c3 (qF n21 (qT rfl (qT c4 (qF n21 (qT rfl (qT c5 (qT rfl ⟨_,_,_,_,rfl⟩))))))))))))))))
            ·by_cases c6:(6:Int)<len d
             ·rcases Gg (nm:=cl d 6 0) (a:=a) (b:=b) (c:=c) (z:=6) (t:=false) (l 6 (by omega)) with ⟨p,q,o⟩|o
              ·rw [C4 v0 d e f g h i j k n o rfl rfl rfl];refine qT rfl ?_;refine (?_:Q26 (cond false _ _));rw [lp];exact qT c0 (qF n21 (qT rfl (qT c1 (qF n21 (qT rfl (qT c2 (qF n21 (qT rfl (qT c3 (qF n21 (qT rfl (qT c4 (qF n21 (qT rfl (qT c5 (qF n21 (qT rfl (qT c6 (qT rfl ⟨_,_,_,_,rfl⟩)))))))))))))))))))
              ·by_cases c7:(7:Int)<len d
               ·rcases Gg (nm:=cl d 7 0) (a:=a) (b:=b) (c:=c) (z:=7) (t:=false) (l 7 (by omega)) with ⟨p,q,r⟩|r
                ·rw [C4 v0 d e f g h i j k n o r rfl rfl];refine qT rfl ?_;refine (?_:Q26 (cond false _ _));rw [lp];exact qT c0 (qF n21 (qT rfl (qT c1 (qF n21 (qT rfl (qT c2 (qF n21 (qT rfl (qT c3 (qF n21 (qT rfl (qT c4 (qF n21 (qT rfl (qT c5 (qF n21 (qT rfl (qT c6 (qF n21 (qT rfl (qT c7 (qT rfl ⟨_,_,_,_,rfl⟩))))))))))))))))))))))
                ·by_cases c8:(8:Int)<len d
                 ·rcases Gg (nm:=cl d 8 0) (a:=a) (b:=b) (c:=c) (z:=8) (t:=false) (l 8 (by omega)) with ⟨p,q,s⟩|s
                  ·rw [C4 v0 d e f g h i j k n o r s rfl];refine qT rfl ?_;refine (?_:Q26 (cond false _ _));rw [lp];exact qT c0 (qF n21 (qT rfl (qT c1 (qF n21 (qT rfl (qT c2 (qF n21 (qT rfl (qT c3 (qF n21 (qT rfl (qT c4 (qF n21 (qT rfl (qT c5 (qF n21 (qT rfl (qT c6 (qF n21 (qT rfl (qT c7 (qF n21 (qT rfl (qT c8 (qT rfl ⟨_,_,_,_,rfl⟩)))))))))))))))))))))))))
                  ·have c9:¬(9:Int)<len d:=by omega
                   rw [C4 v0 d e f g h i j k n o r s rfl];refine qT rfl ?_;refine (?_:Q26 (cond false _ _));rw [lp];exact qT c0 (qF n21 (qT rfl (qT c1 (qF n21 (qT rfl (qT c2 (qF n21 (qT rfl (qT c3 (qF n21 (qT rfl (qT c4 (qF n21 (qT rfl (qT c5 (qF n21 (qT rfl (qT c6 (qF n21 (qT rfl (qT c7 (qF n21 (qT rfl (qT c8 (qF n21 (qT rfl (qF c9 ⟨_,_,_,_,rfl⟩)))))))))))))))))))))))))))
                 ·rw [C4 v0 d e f g h i j k n o r rfl rfl];refine qT rfl ?_;refine (?_:Q26 (cond false _ _));rw [lp];exact qT c0 (qF n21 (qT rfl (qT c1 (qF n21 (qT rfl (qT c2 (qF n21 (qT rfl (qT c3 (qF n21 (qT rfl (qT c4 (qF n21 (qT rfl (qT c5 (qF n21 (qT rfl (qT c6 (qF n21 (qT rfl (qT c7 (qF n21 (qT rfl (qF c8 ⟨_,_,_,_,rfl⟩))))))))))))))))))))))))
               ·rw [C4 v0 d e f g h i j k n o rfl rfl rfl];refine qT rfl ?_;refine (?_:Q26 (cond false _ _));rw [lp];exact qT c0 (qF n21 (qT rfl (qT c1 (qF n21 (qT rfl (qT c2 (qF n21 (qT rfl (qT c3 (qF n21 (qT rfl (qT c4 (qF n21 (qT rfl (qT c5 (qF n21 (qT rfl (qT c6 (qF n21 (qT rfl (qF c7 ⟨_,_,_,_,rfl⟩)))))))))))))))))))))
             ·rw [C4 v0 d e f g h i j k n rfl rfl rfl rfl];refine qT rfl ?_;refine (?_:Q26 (cond false _ _));rw [lp];exact qT c0 (qF n21 (qT rfl (qT c1 (qF n21 (qT rfl (qT c2 (qF n21 (qT rfl (qT c3 (qF n21 (qT rfl (qT c4 (qF n21 (qT rfl (qT c5 (qF n21 (qT rfl (qF c6 ⟨_,_,_,_,rfl⟩))))))))))))))))))
           ·rw [C4 v0 d e f g h i j k rfl rfl rfl rfl rfl];refine qT rfl ?_;refine (?_:Q26 (cond false _ _));rw [lp];exact qT c0 (qF n21 (qT rfl (qT c1 (qF n21 (qT rfl (qT c2 (qF n21 (qT rfl (qT c3 (qF n21 (qT rfl (qT c4 (qF n21 (qT rfl (qF c5 ⟨_,_,_,_,rfl⟩)))))))))))))))
         ·rw [C4 v0 d e f g h i j rfl rfl rfl rfl rfl rfl];refine qT rfl ?_;refine (?_:Q26 (cond false _ _));rw [lp];exact qT c0 (qF n21 (qT rfl (qT c1 (qF n21 (qT rfl (qT c2 (qF n21 (qT rfl (qT c3 (qF n21 (qT rfl (qF c4 ⟨_,_,_,_,rfl⟩))))))))))))
       ·rw [C4 v0 d e f g h i rfl rfl rfl rfl rfl rfl rfl];refine qT rfl ?_;refine (?_:Q26 (cond false _ _));rw [lp];exact qT c0 (qF n21 (qT rfl (qT c1 (qF n21 (qT rfl (qT c2 (qF n21 (qT rfl (qF c3 ⟨_,_,_,_,rfl⟩)))))))))
     ·rw [C4 v0 d e f g h rfl rfl rfl rfl rfl rfl rfl rfl];refine qT rfl ?_;refine (?_:Q26 (cond false _ _));rw [lp];exact qT c0 (qF n21 (qT rfl (qT c1 (qF n21 (qT rfl (qF c2 ⟨_,_,_,_,rfl⟩))))))
   ·rw [C4 v0 d e f g rfl rfl rfl rfl rfl rfl rfl rfl rfl];refine qT rfl ?_;refine (?_:Q26 (cond false _ _));rw [lp];exact qT c0 (qF n21 (qT rfl (qF c1 ⟨_,_,_,_,rfl⟩)))
 ·rw [C4 v0 d e f rfl rfl rfl rfl rfl rfl rfl rfl rfl rfl];refine qT rfl ?_;refine (?_:Q26 (cond false _ _));rw [lp];exact qF c0 ⟨_,_,_,_,rfl⟩
def Ok (v0 ms st:D):Prop:=∃x y M N a,Gs v0 ms st=.row [.int 2,.int 0,.int 0,.int 0,.bool false,v0,ms,st,.int (-1),.int (-1),x,y,M,N]∧Good ms st M N a
theorem jg {v0 d v2:D} (e:len d≤9) (f:∀m:Nat,m<len d→FT (cl d m 1)):(∃a b c:Int,OH v0 d v2=.row [.int 1,.int a,.int b,.int c,.bool true])∨(Q26 (OH v0 d v2)∧Ok v0 d v2):=by
 rcases iM (v0:=v0) (st:=v2) (ms:=d) (by omega) f with ⟨a,b,c,g⟩|⟨g,i⟩
 ·refine .inl ⟨a,b,c,?_⟩;rw [C4 v0 d v2 g rfl rfl rfl rfl rfl rfl rfl rfl rfl rfl];rfl
 ·obtain ⟨x,y,M,N,j,k,h⟩:=i;exact .inr ⟨lL g e fun m l=>h.1.fo m l,⟨x,y,M,N,j,k,h⟩⟩
theorem kK {v0 v1 v2:D} (d:len v1≤9) (e:∀m:Nat,m<len v1→FT (cl v1 m 1)):Gu v0 v1 v2=.row [.int 1,.bool false]∨(Gu v0 v1 v2=.row [.int 1,.bool true]∧Ok v0 v1 v2):=by
 rw [rG];rcases jg (v0:=v0) (v2:=v2) d e with ⟨a,b,c,g⟩|⟨⟨a,b,c,t,g⟩,f⟩
 ·rw [g];exact .inl rfl
 ·rw [g];cases t with
  |true=>exact .inl rfl
  |false=>exact .inr ⟨rfl,f⟩
def Sm (a:D) (n:Nat):Prop:=∀m:Nat,m<n→len (cl a m 1)≤16∧∀k:Nat,k<len (cl a m 1)→len (cl (cl a m 1) k 12)≤10∧len (cl (cl a m 1) k 8)≤6
theorem fh {v0 v1 v2:D} (l:len v1≤9):∀k i,i+k=len v1→Sm v1 i→YL (.int (i:Nat)) v0 v1 v2=.row [.int 1,.bool false]∨(YL (.int (i:Nat)) v0 v1 v2=.row [.int 1,.bool true]∧Sm v1 (len v1))
 |0,i,h,d=>by
  have:i=len v1:=h;subst this;rw [rI,ifF (by omega)]
  exact .inr ⟨rfl,d⟩
 |k+1,i,h,d=>by
  rw [rI,ifT (by omega),ifF (by omega)]
  by_cases c1:16<(len (cl v1 i 1):Int)
  ·rw [ifT c1];exact .inl rfl
  ·rw [ifF c1];by_cases c2:100<(Cz (cl v1 i 0):Int)
   ·rw [ifT c2];exact .inl rfl
   ·rw [ifF c2]
    have a:∀n j,j+n=len (cl v1 i 1)→(∀k:Nat,k<j→len (cl (cl v1 i 1) k 12)≤10∧len (cl (cl v1 i 1) k 8)≤6)→
      YN (.int (i:Nat)) (.int (j:Nat)) v0 v1 v2 (cl v1 i 0) (cl v1 i 1)=.row [.int 1,.bool false]∨(YN (.int (i:Nat)) (.int (j:Nat)) v0 v1 v2 (cl v1 i 0) (cl v1 i 1)=.row [.int 1,.bool true]∧Sm v1 (len v1)):=by
     intro n
     induction n with
     |zero=>
      intro j g e;have:j=len (cl v1 i 1):=g;rw [rJ,ifF (by omega),AL (by omega)]
      refine fh l k (i+1) (by omega) fun m o=>?_
      rcases gg m i with b|b
      ·exact d m b
      ·have:m=i:=by omega
       subst this;exact ⟨by omega,fun q f=>e q (by omega)⟩
     |succ n ih=>
      intro j g e;rw [rJ,ifT (by omega),ifF (by omega),AL (by omega)]
      by_cases d1:100<(Cz (cl (cl v1 i 1) j 0):Int)
      ·rw [ifT d1];exact .inl rfl
      ·rw [ifF d1];by_cases d2:10<(len (cl (cl v1 i 1) j 12):Int)
       ·rw [ifT d2];exact .inl rfl
       ·rw [ifF d2];by_cases d3:6<(len (cl (cl v1 i 1) j 8):Int)
        ·rw [ifT d3];exact .inl rfl
        ·rw [ifF d3];refine ih (j+1) (by omega) fun q f=>?_
         rcases gg q j with c|c
         ·exact e q c
         ·have:q=j:=by omega
          subst this;exact ⟨by omega,by omega⟩
    exact a (len (cl v1 i 1)) 0 (by omega) fun q f=>absurd f (hH _)
theorem rp {v0 v1 v2:D}:Z0 v0 v1 v2=.row [.int 1,.bool false]∨(Z0 v0 v1 v2=.row [.int 1,.bool true]∧len v1≤9∧Sm v1 (len v1)):=by
 rw [Ade];by_cases c1:9<(len v1:Int)
 ·rw [ifT c1];exact .inl rfl
 ·rw [ifF c1];by_cases c2:100<(Cz v0:Int)
  ·rw [ifT c2];exact .inl rfl
  ·rw [ifF c2];by_cases c3:100<(Cz v2:Int)
   ·rw [ifT c3];exact .inl rfl
   ·rw [ifF c3];rcases fh (v0:=v0) (v2:=v2) (v1:=v1) (by omega) (len v1) 0 (by omega) (fun m a=>absurd a (hH _)) with g|⟨g,b⟩
    ·exact .inl g
    ·exact .inr ⟨g,by omega,b⟩
structure FK (v:D):Prop where
 i1:∀i:Nat,i<len v→∃n,cl v i 1=.int n
 i2:∀i:Nat,i<len v→∃n,cl v i 2=.int n
 b3:∀i:Nat,i<len v→∃n,cl v i 3=.bool n
 b4:∀i:Nat,i<len v→∃n,cl v i 4=.bool n
 i5:∀i:Nat,i<len v→∃n,cl v i 5=.int n
 i6:∀i:Nat,i<len v→∃n,cl v i 6=.int n
 i7:∀i:Nat,i<len v→∃n,cl v i 7=.int n
 i13:∀i:Nat,i<len v→∃n,cl v i 13=.int n
 i14:∀i:Nat,i<len v→∃n,cl v i 14=.int n
 nil8:∀i:Nat,i<len v→(cl v i 8).isNil=true→len (cl v i 8)=0
 case:∀i:Nat,i<len v→∀j:Nat,j<len (cl v i 12)→(∃n,cl (cl v i 12) j 0=.int n)∧∃n,cl (cl v i 12) j 1=.int n
end
end Mc
set_option maxRecDepth 4000
namespace Mc
open Go Go.AE
section
variable [Ao]
def Sh2 (M:D):Prop:=∀r∈M.rows,∃x v,r=.row [x,v]
theorem Sh2.shape {M:D} (h:Sh2 M):∀r∈M.rows,∃x l,r=.row (x::l):=fun r t=>by obtain ⟨x,n,e⟩:=h r t;exact ⟨x,_,e⟩
theorem Sh2.wd {M:D} (h:Sh2 M):Wd M 2:=fun r l=>by obtain ⟨x,n,e⟩:=h r l;exact ⟨_,e,rfl⟩
theorem Sh2.empty:Sh2 Af:=fun r l=>by cases l
theorem Sh2.ad {M x v:D} (h:Sh2 M):Sh2 (AE.ad M (.row [x,v])):=fun r l=>(Tv l).elim (h r) fun e=>⟨_,_,e⟩
theorem fC {M k:D} (h:Sh2 M):mIx [.str] M (.row [k])<len M:=by
 rw [CJ h.shape];have:=Ek (p:=fun i=>D.strEq (cl M i 0) k) (k:=len M) (i:=0)
 omega
theorem eZ {M k:D} (h:Sh2 M) (a:Kn M k):0≤mIx [.str] M (.row [k])∧D.strEq (cl M (mIx [.str] M (.row [k])) 0) k=true:=by
 unfold Kn at a;refine ⟨by omega,?_⟩
 rw [CJ h.shape] at a ⊢;have b:0≤fdG (fun i=>D.strEq (cl M i 0) k) (len M) 0:=by omega
 have c:=E9 b;rw [Int.toNat_of_nonneg b] at c;exact c
theorem Kn.congr {M a b:D} (h:Sh2 M) (r:D.strEq a b=true) (l:Kn M a):Kn M b:=by
 unfold Kn at l ⊢;rw [←Hh h.shape r];exact l
def lk (M k:D):Option D:=if mIx [.str] M (.row [k])<0 then none else some (cl M (mIx [.str] M (.row [k])) 1)
theorem En {M a b:D} (h:Sh2 M) (c:D.strEq a b=true):lk M a=lk M b:=by unfold lk;rw [Hh h.shape c]
theorem On {M k:D}:Kn M k↔lk M k≠none:=by
 unfold lk Kn;by_cases h:mIx [.str] M (.row [k])<0
 ·rw [if_pos h];exact ⟨fun a=>absurd h a,fun a=>absurd rfl a⟩
 ·rw [if_neg h];exact ⟨fun _ a=>(by cases a),fun _=>h⟩
theorem ET {M k v:D} (h:lk M k=some v):¬mIx [.str] M (.row [k])<0∧cl M (mIx [.str] M (.row [k])) 1=v:=by
 unfold lk at h;by_cases c:mIx [.str] M (.row [k])<0
 ·rw [if_pos c] at h;cases h
 ·rw [if_neg c] at h;cases h;exact ⟨c,rfl⟩
theorem Qh {M k:D} (h:lk M k=none):mIx [.str] M (.row [k])<0:=by
 unfold lk at h;by_cases c:mIx [.str] M (.row [k])<0
 ·exact c
 ·rw [if_neg c] at h;cases h
theorem HP {M x v k:D} (h:Sh2 M):lk (AE.ad M (.row [x,v])) k=match lk M k with|some u=>some u|none=>if D.strEq x k=true then some v else none:=by
 unfold lk;rw [Mr h.shape];have a:=fC (k:=k) h;by_cases c:mIx [.str] M (.row [k])<0
 ·rw [if_pos c,if_neg (show ¬0≤mIx [.str] M (.row [k]) by omega)]
  by_cases s:D.strEq x k=true
  ·rw [if_pos s,if_pos s,if_neg (by omega),II (by omega),if_pos rfl];rfl
  ·rw [if_neg s,if_neg s,if_pos (by omega)]
 ·rw [if_neg c,if_pos (show 0≤mIx [.str] M (.row [k]) by omega),if_neg c,II (by omega),if_neg (by omega)]
theorem Sh2.upd {M x:D} {i:Int} (h:Sh2 M):Sh2 (AE.upd M i 1 x):=by
 intro r l;obtain ⟨cs,e,t⟩:=P4 (x:=x) (i:=i) (j:=1) h.wd r l
 match cs,t with
 |[a,b],_=>exact ⟨a,b,e⟩
theorem dZ {M x k:D} {i:Int} (h:Sh2 M) (a:0≤i) (b:i<len M):mIx [.str] (AE.upd M i 1 x) (.row [k])=mIx [.str] M (.row [k]):=by
 rw [CJ (h.upd (x:=x) (i:=i)).shape,CJ h.shape,ES];refine CW fun j _ d=>?_
 rw [JZ h.wd (by decide) a b (by omega),if_neg (fun c=>absurd c.2 (by decide))]
theorem Zk {M x k v:D} (h:Sh2 M) (d:Kn M x):lk (AE.upd M (mIx [.str] M (.row [x])) 1 v) k=if D.strEq x k=true then some v else lk M k:=by
 obtain ⟨b,g⟩:=eZ h d;have a:=fC (k:=x) h;unfold lk;rw [dZ h b a];by_cases s:D.strEq x k=true
 ·rw [if_pos s,←Hh h.shape s,if_neg d,KP h.wd (by decide) b a]
 ·rw [if_neg s];by_cases c:mIx [.str] M (.row [k])<0
  ·rw [if_pos c,if_pos c]
  ·rw [if_neg c,if_neg c];have f:=eZ h (k:=k) c;rw [W2 h.wd (by decide) b a (by omega)]
   intro e;rw [e] at f;have i:=O8 (by rw [AR];exact g) f.2
   exact s i
structure BT (M:D):Prop where
 sh:Sh2 M
 tr:∀k v,lk M k=some v→v=.bool true
theorem BT.ad {M x:D} (h:BT M) (t:¬Kn M x):BT (AE.ad M (.row [x,.bool true]))∧Kn (AE.ad M (.row [x,.bool true])) x∧(∀k,Kn M k→Kn (AE.ad M (.row [x,.bool true])) k)∧∀k,Kn (AE.ad M (.row [x,.bool true])) k→Kn M k∨D.strEq x k=true:=by
 refine ⟨⟨h.sh.ad,fun k v l=>?_⟩,?_,fun k l=>?_,fun k l=>?_⟩
 ·rw [HP h.sh] at l;cases r:lk M k with
  |some u=>rw [r] at l;cases l;exact h.tr k _ r
  |none=>
   rw [r] at l;simp only at l;split at l
   ·cases l;rfl
   ·cases l
 ·rw [On,HP h.sh];cases lk M x with
  |some u=>simp
  |none=>simp [Cj]
 ·rw [On] at l ⊢;rw [HP h.sh];cases r:lk M k with
  |some u=>simp
  |none=>exact absurd r l
 ·rw [On,HP h.sh] at l;rw [On];cases r:lk M k with
  |some u=>exact .inl (by simp)
  |none=>
   rw [r] at l;simp only at l;by_cases s:D.strEq x k=true
   ·exact .inr s
   ·rw [if_neg s] at l;exact absurd rfl l
variable {ms:D} {dp:Nat→Int} {MM0:D}
def rfs (ms:D) (i:Nat):List D:=RF (fsI ms i) (len (fsI ms i))
structure Gr (ms:D) (A B:D):Prop where
 bt:BT B
 le:∀k,Kn A k→Kn B k
 cls:∀j,j<len ms→Kn B (nmI ms j)→¬Kn A (nmI ms j)→∀r∈rfs ms j,Kn B r
theorem Gr.refl {A:D} (h:BT A):Gr ms A A:=⟨h,fun _ h=>h,fun _ _ l r=>absurd l r⟩
theorem Gr.trans {A B C:D} (h:Gr ms A B) (k:Gr ms B C):Gr ms A C:=⟨k.bt,fun x I=>k.le x (h.le x I),fun j l J h2 r t=>by
 by_cases c:Kn B (nmI ms j)
 ·exact k.le r (h.cls j l c h2 r t)
 ·exact k.cls j l J c r t⟩
def Vs (ms:D) (V:D→D→D) (n:Nat):Prop:=∀(nm A:D) (i:Nat),ixN ms (len ms) nm=(i:Nat)→i≤n→BT A→∃B,V nm A=.row [.int 1,B]∧Gr ms A B∧Kn B nm
def Rs (ms:D) (R:D→D→D) (n:Nat):Prop:=∀(A l:D) (i:Nat),i≤n→i<len ms→l.rows=nms (rfs ms i)→BT A→∃B,R A l=.row [.int 1,B]∧Gr ms A B∧∀r∈rfs ms i,Kn B r
theorem Hi {n:Nat} {a b:D} (h:D.strEq a b=true):ixN ms n a=ixN ms n b:=CW fun j _ _=>by rw [AR,Jm h,AR]
theorem LM {n:Nat} {M:D} (h:GP ms n M dp) {j:Nat} (e:j<n):ixN ms n (nmI ms j)=j:=by
 have a:=Mb (p:=fun i=>D.strEq (nmI ms i) (nmI ms j)) (k:=n) (i:=0) (j:=j) (by omega) (by omega) Cj
 have c:=E9 a.1;obtain ⟨m,f⟩:=y0 a.1;unfold ixN;rw [f] at a c ⊢;rcases gg m j with b|g
 ·have l:=h.dist m j b e;have d:D.strEq (nmI ms m) (nmI ms j)=true:=c;rw [l] at d;cases d
 ·congr 1;omega
theorem Kg {n:Nat} {k:D} {i:Nat} (h:ixN ms n k=(i:Nat)):i<n∧D.strEq (nmI ms i) k=true:=by
 unfold ixN at h;have a:=E9 (p:=fun i=>D.strEq (nmI ms i) k) (k:=n) (i:=0) (by omega)
 have b:=Ek (p:=fun i=>D.strEq (nmI ms i) k) (k:=n) (i:=0)
 rw [h] at a b;exact ⟨by omega,a⟩
theorem GP.ref {n:Nat} {M:D} (h:GP ms n M dp) {i:Nat} (hi:i<n) {r:D} (t:r∈rfs ms i):∃j:Nat,j<i∧ixN ms n r=(j:Nat)∧D.strEq (nmI ms j) r=true∧dp j<dp i:=by
 obtain ⟨j,I,l,J⟩:=h.refs i hi r t;refine ⟨j,I,?_,l,J⟩;rw [←Hi l];exact LM h (by omega)
section
variable (a2 st:D)
theorem PH {ms k:D} (h:len ms≤1000000):Aw ms k=.row [.int 1,.int (ixN ms (len ms) k)]:=gX h
theorem DE {R:D→D→D→D→D→D} {n:Nat} {M:D} (w:GP ms (len ms) M dp) (N:len ms≤9) (hR:Rs ms (fun A l=>R A a2 ms st l) n):Vs ms (fun nm A=>VT R nm A a2 ms st) n:=by
 intro nm A i hi p s;obtain ⟨e,z⟩:=Kg hi;show ∃B,VT R nm A a2 ms st=_∧_
 unfold VT;rw [PH (by omega),hi]
 by_cases d:Kn A nm
 ·have f:=d;rw [On] at f
  obtain ⟨v,x⟩:∃v,lk A nm=some v:=by cases h:lk A nm with
   |none=>exact absurd h f
   |some v=>exact ⟨v,rfl⟩
  obtain ⟨C,E⟩:=ET x;rw [ifF C,E,s.tr nm v x];exact ⟨A,rfl,.refl s,d⟩
 ·have t:mIx [.str] A (.row [nm])<0:=Int.not_le.1 fun h=>d (by unfold Kn;omega)
  obtain ⟨F,G,b3,b4⟩:=s.ad d;obtain ⟨l,g,a⟩:=MJ (v0:=cl ms i 0) (w.fo i e).ft;obtain ⟨B,H,o,I⟩:=hR (ad A (.row [nm,.bool true])) l i p e a F;rw [ifT t,AK];refine (?_:∃B,cond (decide ((i:Int)<0)) _ (cond (decide ((i:Int)<len ms)) (cond (decide ((sl (AJ (cl ms i 0) (cl ms i 1)) 0).toInt=1)) (cond (decide ((sl (R (ad A (.row [nm,(.bool true)])) a2 ms st (sl (AJ (cl ms i 0) (cl ms i 1)) 1)) 0).toInt=1)) (D.row [D.int 1,(sl (R (ad A (.row [nm,(.bool true)])) a2 ms st (sl (AJ (cl ms i 0) (cl ms i 1)) 1)) 1)]) _) _) _)=_∧_)
  rw [ifF (by omega),ifT (by omega)]
  have b:AJ (cl ms i 0) (cl ms i 1)=.row [.int 1,l]:=g;have u:R (ad A (.row [nm,(.bool true)])) a2 ms st (sl (.row [.int 1,l]) 1)=.row [.int 1,B]:=H;rw [b,AK,u,AK];refine ⟨B,rfl,⟨o.bt,fun k d=>o.le k (b3 k d),fun j y J K r m=>?_⟩,o.le nm G⟩
  by_cases c:Kn (ad A (.row [nm,.bool true])) (nmI ms j)
  ·rcases b4 _ c with q|q
   ·exact absurd q K
   ·have:j=i:=by
     have L:=LM w y;rw [←Hi q,hi] at L;omega
    subst this;exact I r m
  ·exact o.cls j y J c r m
theorem DD {V:D→D→D→D→D→D} {R1:D→D→D→D→D→D→D} {n:Nat} {M:D} (t:GP ms (len ms) M dp) (X:len ms≤9) (hV:Vs ms (fun nm A=>V nm A a2 ms st) n)
  (m:∀y i E F G H,R1 y (.int i) E F G H=RT V R1 y i E F G H):Rs ms (fun A l=>R1 l (.int 0) A a2 ms st) (n+1):=by
 intro A l i L d c N;have O:=Gb (t.fo i d).ft _ (IqQ _);have few:=(t.fo i d).ft.few;have I:len l=(rfs ms i).length:=by show l.rows.length=_;rw [c];simp [nms]
 have P:(rfs ms i).length≤160:=by unfold rfs;omega
 have e:∀j (b:j<(rfs ms i).length),cl l j 0=(rfs ms i)[j]:=fun j b=>E6 c b
 have Q:∀k q (B:D),q+k=len l→Gr ms A B→(∀j (b:j<(rfs ms i).length),j<q→Kn B (rfs ms i)[j])→∃C,R1 l (.int (q:Nat)) B a2 ms st=.row [.int 1,C]∧Gr ms A C∧∀r∈rfs ms i,Kn C r:=by
  intro k
  induction k with
  |zero=>
   intro q B h g o;rw [m];unfold RT;rw [ifF (by omega)]
   refine ⟨B,rfl,g,fun r R=>?_⟩
   obtain ⟨j,b,rfl⟩:=ud R;exact o j b (by omega)
  |succ k ih=>
   intro q B h g o;have J:q<(rfs ms i).length:=by omega
   obtain ⟨z,S,u,_⟩:=PA (l:=l) (i:=q) (by omega) (by omega)
   rw [m];unfold RT;rw [ifT (by omega),ifF (by omega),ifF (by omega),S,AL (by omega),AK]
   refine (?_:∃C,cond (decide (z<0)) _ _=_∧_)
   by_cases f:z<0
   ·rw [ifT f,e q J];obtain ⟨j,b,v,_,_⟩:=t.ref d (r:=(rfs ms i)[q]) (Aei J);obtain ⟨C,T,s,U⟩:=hV (rfs ms i)[q] B j v (by omega) g.bt
    have w:V (rfs ms i)[q] B a2 ms st=.row [.int 1,C]:=T;rw [w,AK];refine ih (q+1) C (by omega) (g.trans s) fun j b x=>?_
    rcases gg j q with a|a
    ·exact s.le _ (o j b a)
    ·have:j=q:=by omega
     subst this;exact U
   ·rw [ifF f];refine ih (q+1) B (by omega) g fun j b x=>?_
    rcases gg j q with a|a
    ·exact o j b a
    ·have:j=q:=by omega
     subst this;obtain ⟨p,W,K⟩:=u f;rw [e j b,e p (by omega)] at K
     exact (o p (by omega) W).congr g.bt.sh (by rw [AR];exact K)
 exact Q (len l) 0 A (by omega) (.refl N) fun j _ b=>absurd b (hH _)
theorem Fj {n:Nat} {M:D} (a:GP ms n M dp) (h:0<n):rfs ms 0=[]:=by
 cases b:rfs ms 0 with
 |nil=>rfl
 |cons r t=>
  obtain ⟨j,c,_⟩:=a.ref h (r:=r) (by rw [b];exact Aef)
  exact absurd c (hH _)
theorem Acn {M:D} (m:GP ms (len ms) M dp) (K:len ms≤9):Vs ms (fun nm A=>QA nm A a2 ms st) 0:=by
 intro nm A i hi t n;obtain ⟨c,u⟩:=Kg hi;have w:i=0:=by omega
 subst w;show ∃B,QA nm A a2 ms st=_∧_
 rw [wN,PH (by omega),hi]
 by_cases k:Kn A nm
 ·have d:=k;rw [On] at d
  obtain ⟨v,s⟩:∃v,lk A nm=some v:=by cases h:lk A nm with
   |none=>exact absurd h d
   |some v=>exact ⟨v,rfl⟩
  obtain ⟨x,y⟩:=ET s;rw [ifF x,y,n.tr nm v s];exact ⟨A,rfl,.refl n,k⟩
 ·have o:mIx [.str] A (.row [nm])<0:=Int.not_le.1 fun h=>k (by unfold Kn;omega)
  obtain ⟨z,C,b3,b4⟩:=n.ad k;obtain ⟨l,e,a⟩:=MJ (v0:=cl ms ((0:Nat):Int) 0) (m.fo 0 c).ft;have f:RF (fsI ms 0) (len (fsI ms 0))=[]:=Fj m c;have E:len l=0:=by show l.rows.length=0;rw [a];rw [f];rfl
  have F:KG (ad A (.row [nm,(.bool true)])) a2 ms st l=.row [.int 1]:=by rw [uM,xi,ifF (by omega)]
  rw [ifT o,AK];refine (?_:∃B,cond (decide (((0:Nat):Int)<0)) _ (cond (decide (((0:Nat):Int)<len ms)) (cond (decide ((sl (AJ (cl ms ((0:Nat):Int) 0) (cl ms ((0:Nat):Int) 1)) 0).toInt=1)) (cond (decide ((sl (KG (ad A (.row [nm,(.bool true)])) a2 ms st (sl (AJ (cl ms ((0:Nat):Int) 0) (cl ms ((0:Nat):Int) 1)) 1)) 0).toInt=1)) (D.row [D.int 1,ad A (.row [nm,(.bool true)])]) _) _) _)=_∧_)
  rw [ifF (by omega),ifT (by omega)]
  have b:AJ (cl ms ((0:Nat):Int) 0) (cl ms ((0:Nat):Int) 1)=.row [.int 1,l]:=e;have p:KG (ad A (.row [nm,(.bool true)])) a2 ms st (sl (.row [.int 1,l]) 1)=.row [.int 1]:=F;rw [b,AK,p,AK];refine ⟨_,rfl,⟨z,b3,fun j G H I r g=>?_⟩,C⟩
  rcases b4 _ H with q|q
  ·exact absurd q I
  ·have:j=0:=by
    have J:=LM m G;rw [←Hi q,hi] at J;omega
   subst this;have:rfs ms 0=[]:=f;rw [this] at g;cases g
theorem rl1 {M:D} (a:GP ms (len ms) M dp) (b:len ms≤9):Rs ms (fun A l=>NJ A a2 ms st l) 1:=by
 have h:=DD (R1:=RC) (V:=QA) a2 st a b (Acn a2 st a b) (fun c i d f j k=>mM c i d f j k)
 intro A l i m n o p;obtain ⟨B,g⟩:=h A l i m n o p;have e:NJ A a2 ms st l=RC l (.int 0) A a2 ms st:=qp A a2 ms st l;exact ⟨B,e.trans g.1,g.2⟩
theorem Add {M:D} (a:GP ms (len ms) M dp) (b:len ms≤9):Vs ms (fun nm A=>So nm A a2 ms st) 1:=by
 have h:=DE (R:=NJ) a2 st a b (rl1 a2 st a b);intro nm A i c d f;obtain ⟨B,g⟩:=h nm A i c d f;have e:So nm A a2 ms st=VT NJ nm A a2 ms st:=mI nm A a2 ms st;exact ⟨B,e.trans g.1,g.2⟩
theorem rl2 {M:D} (a:GP ms (len ms) M dp) (b:len ms≤9):Rs ms (fun A l=>OP A a2 ms st l) 2:=by
 have h:=DD (R1:=Sc) (V:=So) a2 st a b (Add a2 st a b) (fun c i d f j k=>xf c i d f j k)
 intro A l i m n o p;obtain ⟨B,g⟩:=h A l i m n o p;have e:OP A a2 ms st l=Sc l (.int 0) A a2 ms st:=nj A a2 ms st l;exact ⟨B,e.trans g.1,g.2⟩
theorem Acv {M:D} (a:GP ms (len ms) M dp) (b:len ms≤9):Vs ms (fun nm A=>Ro nm A a2 ms st) 2:=by
 have h:=DE (R:=OP) a2 st a b (rl2 a2 st a b);intro nm A i c d f;obtain ⟨B,g⟩:=h nm A i c d f;have e:Ro nm A a2 ms st=VT OP nm A a2 ms st:=zi nm A a2 ms st;exact ⟨B,e.trans g.1,g.2⟩
theorem rl3 {M:D} (a:GP ms (len ms) M dp) (b:len ms≤9):Rs ms (fun A l=>OW A a2 ms st l) 3:=by
 have h:=DD (R1:=Rm) (V:=Ro) a2 st a b (Acv a2 st a b) (fun c i d f j k=>qq c i d f j k)
 intro A l i m n o p;obtain ⟨B,g⟩:=h A l i m n o p;have e:OW A a2 ms st l=Rm l (.int 0) A a2 ms st:=uh A a2 ms st l;exact ⟨B,e.trans g.1,g.2⟩
theorem Acu {M:D} (a:GP ms (len ms) M dp) (b:len ms≤9):Vs ms (fun nm A=>R7 nm A a2 ms st) 3:=by
 have h:=DE (R:=OW) a2 st a b (rl3 a2 st a b);intro nm A i c d f;obtain ⟨B,g⟩:=h nm A i c d f;have e:R7 nm A a2 ms st=VT OW nm A a2 ms st:=sk nm A a2 ms st;exact ⟨B,e.trans g.1,g.2⟩
theorem rl4 {M:D} (a:GP ms (len ms) M dp) (b:len ms≤9):Rs ms (fun A l=>OS A a2 ms st l) 4:=by
 have h:=DD (R1:=Q0) (V:=R7) a2 st a b (Acu a2 st a b) (fun c i d f j k=>yj c i d f j k)
 intro A l i m n o p;obtain ⟨B,g⟩:=h A l i m n o p;have e:OS A a2 ms st l=Q0 l (.int 0) A a2 ms st:=pR A a2 ms st l;exact ⟨B,e.trans g.1,g.2⟩
theorem Aci {M:D} (a:GP ms (len ms) M dp) (b:len ms≤9):Vs ms (fun nm A=>RM nm A a2 ms st) 4:=by
 have h:=DE (R:=OS) a2 st a b (rl4 a2 st a b);intro nm A i c d f;obtain ⟨B,g⟩:=h nm A i c d f;have e:RM nm A a2 ms st=VT OS nm A a2 ms st:=ub nm A a2 ms st;exact ⟨B,e.trans g.1,g.2⟩
theorem rl5 {M:D} (a:GP ms (len ms) M dp) (b:len ms≤9):Rs ms (fun A l=>Ov A a2 ms st l) 5:=by
 have h:=DD (R1:=Ss) (V:=RM) a2 st a b (Aci a2 st a b) (fun c i d f j k=>s7 c i d f j k)
 intro A l i m n o p;obtain ⟨B,g⟩:=h A l i m n o p;have e:Ov A a2 ms st l=Ss l (.int 0) A a2 ms st:=mA A a2 ms st l;exact ⟨B,e.trans g.1,g.2⟩
theorem Ad3 {M:D} (a:GP ms (len ms) M dp) (b:len ms≤9):Vs ms (fun nm A=>Rk nm A a2 ms st) 5:=by
 have h:=DE (R:=Ov) a2 st a b (rl5 a2 st a b);intro nm A i c d f;obtain ⟨B,g⟩:=h nm A i c d f;have e:Rk nm A a2 ms st=VT Ov nm A a2 ms st:=zH nm A a2 ms st;exact ⟨B,e.trans g.1,g.2⟩
theorem rl6 {M:D} (a:GP ms (len ms) M dp) (b:len ms≤9):Rs ms (fun A l=>OO A a2 ms st l) 6:=by
 have h:=DD (R1:=Sj) (V:=Rk) a2 st a b (Ad3 a2 st a b) (fun c i d f j k=>oR c i d f j k)
 intro A l i m n o p;obtain ⟨B,g⟩:=h A l i m n o p;have e:OO A a2 ms st l=Sj l (.int 0) A a2 ms st:=Aaj A a2 ms st l;exact ⟨B,e.trans g.1,g.2⟩
theorem Acs {M:D} (a:GP ms (len ms) M dp) (b:len ms≤9):Vs ms (fun nm A=>Ra nm A a2 ms st) 6:=by
 have h:=DE (R:=OO) a2 st a b (rl6 a2 st a b);intro nm A i c d f;obtain ⟨B,g⟩:=h nm A i c d f;have e:Ra nm A a2 ms st=VT OO nm A a2 ms st:=qv nm A a2 ms st;exact ⟨B,e.trans g.1,g.2⟩
theorem rl7 {M:D} (a:GP ms (len ms) M dp) (b:len ms≤9):Rs ms (fun A l=>NZ A a2 ms st l) 7:=by
 have h:=DD (R1:=Rt) (V:=Ra) a2 st a b (Acs a2 st a b) (fun c i d f j k=>yX c i d f j k)
 intro A l i m n o p;obtain ⟨B,g⟩:=h A l i m n o p;have e:NZ A a2 ms st l=Rt l (.int 0) A a2 ms st:=nc A a2 ms st l;exact ⟨B,e.trans g.1,g.2⟩
theorem Ad2 {M:D} (a:GP ms (len ms) M dp) (b:len ms≤9):Vs ms (fun nm A=>QK nm A a2 ms st) 7:=by
 have h:=DE (R:=NZ) a2 st a b (rl7 a2 st a b);intro nm A i c d f;obtain ⟨B,g⟩:=h nm A i c d f;have e:QK nm A a2 ms st=VT NZ nm A a2 ms st:=yz nm A a2 ms st;exact ⟨B,e.trans g.1,g.2⟩
theorem rl8 {M:D} (a:GP ms (len ms) M dp) (b:len ms≤9):Rs ms (fun A l=>NH A a2 ms st l) 8:=by
 have h:=DD (R1:=Q8) (V:=QK) a2 st a b (Ad2 a2 st a b) (fun c i d f j k=>yU c i d f j k)
 intro A l i m n o p;obtain ⟨B,g⟩:=h A l i m n o p;have e:NH A a2 ms st l=Q8 l (.int 0) A a2 ms st:=qL A a2 ms st l;exact ⟨B,e.trans g.1,g.2⟩
theorem Adw {M:D} (a:GP ms (len ms) M dp) (b:len ms≤9):Vs ms (fun nm A=>K5 nm A a2 ms st) 8:=by
 have h:=DE (R:=NH) a2 st a b (rl8 a2 st a b);intro nm A i c d f;obtain ⟨B,g⟩:=h nm A i c d f;have e:K5 nm A a2 ms st=VT NH nm A a2 ms st:=nO nm A a2 ms st;exact ⟨B,e.trans g.1,g.2⟩
theorem jb {M:D} (e:GP ms (len ms) M dp) (g:len ms≤9) {a b:D} (l:Kn M st):∃B,R9 a2 ms st (ad Af (.row [st])) (.bool false)=.row [.int 1,B]∧BT B∧Kn B st∧∀j,j<len ms→Kn B (nmI ms j)→∀r∈rfs ms j,Kn B r:=by
 obtain ⟨i,hi,c,m,_⟩:=e.at l;have n:BT Af:=⟨Sh2.empty,fun k v h=>by cases h⟩
 obtain ⟨B,o,f,p⟩:=Adw a2 st e g st Af i c (by omega) n
 have d:K5 st Af a2 ms st=.row [.int 1,B]:=o;refine ⟨B,?_,f.bt,p,fun j q s r t=>f.cls j q s (fun h=>absurd (show mIx [.str] Af (.row [nmI ms j])<0 from by show (-1:Int)<0;decide) h) r t⟩
 rw [Abi,fT,ifT (by show (0:Int)<1;decide),ifF (by decide)]
 refine (?_:cond (decide ((sl (K5 st Af a2 ms st) 0).toInt=1)) (Va (ad Af (.row [st])) (.bool false) (.int (wrap .i64 (0+1))) (sl (K5 st Af a2 ms st) 1) a2 ms st) _=_);rw [d,AK,show wrap .i64 (0+1)=1 from rfl,fT,ifF (by show ¬(1:Int)<1;decide)]
 rfl
end
end
end Mc
namespace Mc
open Go Go.AE
section
variable [Ao]
structure TD (ms:D):Prop where
 wd:Wd ms 2
 nl:ms.isNil=true→len ms=0
 fw:∀m:Nat,m<len ms→Wd (cl ms m 1) 15
 fn:∀m:Nat,m<len ms→(cl ms m 1).isNil=true→len (cl ms m 1)=0
 n12:∀m:Nat,m<len ms→∀i:Nat,i<len (cl ms m 1)→(cl (cl ms m 1) i 12).isNil=true→len (cl (cl ms m 1) i 12)=0
structure CP (v w:D):Prop where
 ln:len w=len v
 wd:Wd w 15
 o:∀i:Nat,i<len v→∀c,c≠8→c≠12→cl w i c=cl v i c
 r8:∀i:Nat,i<len v→(cl w i 8).rows=(cl v i 8).rows
 r12:∀i:Nat,i<len v→(cl w i 12).rows=(cl v i 12).rows
theorem CP.set {v w x8 x12:D} {i:Nat} (h:CP v w) (hi:i<len v) (I:x8.rows=(cl v i 8).rows) (t:x12.rows=(cl v i 12).rows) :
  CP v (upd (upd w i 8 x8) i 12 x12)∧∀j:Nat,j<len v→j≠i→∀c,cl (upd (upd w i 8 x8) i 12 x12) j c=cl w j c:=by
 have J:=h.ln;have w1:Wd (upd w i 8 x8) 15:=P4 h.wd
 have key:∀j:Nat,∀c,cl (upd (upd w i 8 x8) i 12 x12) j c=if (j:Int)=i∧c=12 then x12 else if (j:Int)=i∧c=8 then x8 else cl w j c:=fun j c=>by
  rw [JZ w1 (by decide) (by omega) (by rw [ES];omega) (by omega),JZ h.wd (by decide) (by omega) (by omega) (by omega)]
 refine ⟨⟨by rw [ES,ES];exact J,P4 w1,fun j l c c8 c12=>?_,fun j l=>?_,fun j l=>?_⟩,fun j l r c=>?_⟩
 ·rw [key,if_neg (fun e=>c12 e.2),if_neg (fun e=>c8 e.2)];exact h.o j l c c8 c12
 ·rw [key,if_neg (fun e=>absurd e.2 (by decide))]
  by_cases e:(j:Int)=i
  ·have:j=i:=by omega
   subst this;rw [if_pos ⟨rfl,rfl⟩];exact I
  ·rw [if_neg (fun q=>e q.1)];exact h.r8 j l
 ·rw [key];by_cases e:(j:Int)=i
  ·have:j=i:=by omega
   subst this;rw [if_pos ⟨rfl,rfl⟩];exact t
  ·rw [if_neg (fun q=>e q.1),if_neg (fun q=>e q.1)];exact h.r12 j l
 ·rw [key,if_neg (fun q=>r (by omega)),if_neg (fun q=>r (by omega))]
theorem Me {d:D} (h:len d=0):d.rows=[]:=ie h
theorem Lt {c:D}:(ni (ct Af c) false).rows=c.rows:=by simp [ni,ct,Af,D.rows]
theorem VW {v v4 v5 v7:D} {mi N:Int} {b6 b9:Bool} (d:FT v) (l:∀i:Nat,i<len v→(cl v i 12).isNil=true→len (cl v i 12)=0):∀k i w,i+k=len v→CP v w→(∀j:Nat,i≤j→j<len v→∀c,cl w j c=cl v j c)→
  ∃e,K6 (.int mi) (.int N) (.int (len v:Int)) (.int (i:Nat)) v4 v5 (.bool b6) v7 w (.bool b9)=Jo (.int N) (.int (wrap .i64 (mi+1))) v4 (upd v5 mi 1 (ni e b9)) (.bool b6) v7∧CP v e
 |0,i,w,h,f,g=>by
  have:i=len v:=h;subst this;rw [eW,ifF (by omega)]
  exact ⟨w,rfl,f⟩
 |k+1,i,w,h,f,g=>by
  have few:=d.few;have s:=d.len8 i (by omega)
  have p:=d.len12 i (by omega)
  have t:=f.ln
  have nx:∀x8 x12:D,x8.rows=(cl v i 8).rows→x12.rows=(cl v i 12).rows→∃e,K6 (.int mi) (.int N) (.int (len v:Int)) (.int ((i+1:Nat):Int)) v4 v5 (.bool b6) v7 (upd (upd w i 8 x8) i 12 x12) (.bool b9)=Jo (.int N) (.int (wrap .i64 (mi+1))) v4 (upd v5 mi 1 (ni e b9)) (.bool b6) v7∧CP v e:=fun x8 x12 m a=>by
   obtain ⟨q,r⟩:=f.set (i:=i) (by omega) m a
   exact VW d l k (i+1) _ (by omega) q fun j u n c=>by rw [r j n (by omega)];exact g j (by omega) n c
  rw [eW,ifT (by omega),ifF (by omega),ifT (by omega),AL (by omega),g i (by omega) (by omega),g i (by omega) (by omega)]
  cases m:(cl v i 8).isNil with
  |true=>
   have o:=Me (d.nil8 i (by omega) m)
   rw [qs];cases a:(cl v i 12).isNil with
   |true=>
    have b:=Me (l i (by omega) a)
    rw [qs];exact nx _ _ (by rw [o];rfl) (by rw [b];rfl)
   |false=>rw [lp,ifT (by omega)];exact nx _ _ (by rw [o];rfl) Lt
  |false=>
   rw [lp,ifT (by omega)]
   cases a:(cl v i 12).isNil with
   |true=>
    have b:=Me (l i (by omega) a)
    rw [qs];exact nx _ _ Lt (by rw [b];rfl)
   |false=>rw [lp,ifT (by omega)];exact nx _ _ Lt Lt
structure CM (ms q:D):Prop where
 ln:len q=len ms
 nm:∀i:Nat,i<len ms→cl q i 0=cl ms i 0
 fs:∀i:Nat,i<len ms→CP (cl ms i 1) (cl q i 1)
theorem CP.ni {v w:D} {b:Bool} (h:CP v w):CP v (AE.ni w b):=⟨h.ln,wh h.wd,h.o,h.r8,h.r12⟩
theorem U3 {d a st:D} {b:Bool} (n:TD d) (z:len d≤9) (p:∀m:Nat,m<len d→FT (cl d m 1)):∀k i (q:D),i+k=len d→len q=len d→Wd q 2→(∀j:Nat,j<len d→cl q j 0=cl d j 0)→
  (∀j:Nat,j<i→j<len d→CP (cl d j 1) (cl q j 1))→(∀j:Nat,i≤j→j<len d→cl q j 1=cl d j 1)→∃g r,Jo (.int (len d:Int)) (.int (i:Nat)) a q (.bool b) st=.row [.int 1,a,g,.bool r,st]∧CM d g
 |0,i,q,h,s,o,t,u,v=>by
  have:i=len d:=h;subst this;rw [YE,ifF (by omega)]
  exact ⟨q,b,rfl,s,t,fun j f=>u j f f⟩
 |k+1,i,q,h,s,o,t,u,v=>by
  have hi:i<len d:=by omega
  have few:=(p i hi).few
  have nx:∀x,CP (cl d i 1) x→∃g r,Jo (.int (len d:Int)) (.int ((i+1:Nat):Int)) a (upd q i 1 x) (.bool b) st=.row [.int 1,a,g,.bool r,st]∧CM d g:=fun x A=>by
   have key:∀j:Nat,∀c,cl (upd q i 1 x) j c=if (j:Int)=i∧c=1 then x else cl q j c:=fun j c=>JZ o (by decide) (by omega) (by omega) (by omega)
   refine U3 n z p k (i+1) _ (by omega) (by rw [ES];exact s) (P4 o) (fun j f=>?_) (fun j B w=>?_) (fun j B w=>?_)
   ·rw [key,if_neg (fun e=>absurd e.2 (by decide))];exact t j f
   ·rw [key];by_cases e:(j:Int)=i
    ·have:j=i:=by omega
     subst this;rw [if_pos ⟨rfl,rfl⟩];exact A
    ·rw [if_neg (fun q=>e q.1)];exact u j (by omega) w
   ·rw [key,if_neg (fun e=>by omega)];exact v j (by omega) w
  rw [YE,ifT (by omega),ifF (by omega),ifT (by omega),v i (IqQ _) hi]
  cases l:(cl d i 1).isNil with
  |true=>
   have C:=n.fn i hi l;have key:cl (upd q i 1 BK) i 1=BK:=KP o (by decide) (by omega) (by omega)
   rw [qs,key,MA,uF,ifF (by decide),AL (by omega)]
   exact nx BK ⟨by rw [MA,C],aG,fun j f=>by omega,fun j f=>by omega,fun j f=>by omega⟩
  |false=>
   rw [lp,ifT (by omega)]
   obtain ⟨F,y,E⟩:=VW (v4:=a) (v5:=q) (v7:=st) (mi:=(i:Nat)) (N:=len d) (b6:=b) (b9:=false) (p i hi) (n.n12 i hi) (len (cl d i 1)) 0 (ct Af (cl d i 1)) (by omega) ⟨DY,fF Og (n.fw i hi),fun j f c _ _=>FD,fun j f=>by rw [FD],fun j f=>by rw [FD]⟩ (fun j _ _ c=>FD)
   rw [show (0:Int)=((0:Nat):Int) from rfl,y,AL (by omega)]
   exact nx _ E.ni
theorem iA {a c st:D} (e:TD c) (g:len c≤9) (h:∀m:Nat,m<len c→FT (cl c m 1)):∃q b,GL a c st=.row [.int 1,a,q,.bool b,st]∧CM c q:=by
 rw [tK];cases d:c.isNil with
 |true=>
  have i:=e.nl d;rw [qs,YE,ifF (by decide)]
  exact ⟨BK,true,rfl,by rw [MA,i],fun j f=>by omega,fun j f=>by omega⟩
 |false=>
  rw [lp,ifT (by omega)]
  exact U3 e g h (len c) 0 (ct Af c) (by omega) DY (fF Og e.wd) (fun j _=>FD) (fun j f=>absurd f (hH _)) (fun j _ _=>FD)
end
end Mc
namespace Mc
open Go Go.AE
section
variable [Ao]
def tU (t k:D):Int:=fdG (fun j=>D.strEq (cl t j 0) k) (len t) 0
def fU (v k:D) (i:Nat):Bool:=(decide (kd v i=9)&&D.strEq (cl v i 10) k) || !decide (tU (cl v i 8) k<0)
def us (v k:D):Bool:=!decide (fdG (fun i=>fU v k i) (len v) 0<0)
theorem gB {t k:D} (h:len t≤1000000):NC t k=.row [.int 1,.int (tU t k)]:=by
 rw [va];refine find (F:=fun j=>N6 t (.int (j:Nat)) k) (bad:=fun i=>D.strEq (cl t i 0) k) (n:=len t) ?_ ?_
 ·intro j a;refine (?_:N6 t (.int ((j:Nat):Int)) k=_);rw [fK,ifT (by omega),ifF (by omega),AL (by omega)]
 ·refine (?_:N6 t (.int ((len t:Nat):Int)) k=_);rw [fK,ifF (by omega)]
theorem kk {v k:D} (few:len v≤16) (b:∀j:Nat,j<len v→len (cl v j 8)≤6):VH v k=.row [.int 1,.int (fdG (fun i=>fU v k i) (len v) 0)]:=by
 rw [rh];refine find (F:=fun j=>IY v (.int (j:Nat)) k) (bad:=fun i=>fU v k i) (n:=len v) ?_ ?_
 ·intro j c;have e:=b j c;refine (?_:IY v (.int ((j:Nat):Int)) k=_);have d:(cl v j 1).toInt=kd v j:=rfl;rw [fI,ifT (by omega),ifF (by omega),AL (by omega),gB (by omega),d]
  unfold fU
  have tail:cond (decide ((sl (.row [.int 1,.int (tU (cl v j 8) k)]) 0).toInt=1)) (cond (decide ((sl (.row [.int 1,.int (tU (cl v j 8) k)]) 1).toInt<0)) (IY v (.int ((j+1:Nat):Int)) k) (.row [.int 1,.int ((j:Nat):Int)])) (.row [])=cond (!decide (tU (cl v j 8) k<0)) (.row [.int 1,.int ((j:Nat):Int)]) (IY v (.int ((j+1:Nat):Int)) k):=by
   rw [AK];refine (?_:cond (decide (tU (cl v j 8) k<0)) _ _=_);cases decide (tU (cl v j 8) k<0)<;>rfl
  by_cases a:kd v j=9
  ·rw [ifT a,oj a];cases f:D.strEq (cl v j 10) k with
   |true=>rfl
   |false=>rw [lp,tail];rfl
  ·rw [ifF a,k0 a,tail];rfl
 ·refine (?_:IY v (.int ((len v:Nat):Int)) k=_);rw [fI,ifF (by omega)]
theorem gI {a v k:D} (few:len v≤16) (b:∀j:Nat,j<len v→len (cl v j 8)≤6):Jp a v k=.row [.int 1,.bool (us v k)]:=by
 rw [sO,kk few b,AK];rfl
theorem ZN {v k nm:D} {i:Nat} (a:FT v) (hi:i<len v) {x5 x14 x15 x16 x17:D} {x6 x7 x10 x11 x12 x18 x19:Int} {x8 x9:Bool}:∀n j,j+n=len (cl v i 8)→OV k (.int (i:Nat)) (.int (j:Nat)) nm v x5 (.int x6) (.int x7) (.bool x8) (.bool x9) (.int x10) (.int x11) (.int x12) (cl v i 8) x14 x15 x16 x17 (.int x18) (.int x19) =
  cond (!decide (fdG (fun j=>D.strEq (cl (cl v i 8) j 0) k) n j<0)) (.row [.int 1,.bool true]) (RU k (.int ((i+1:Nat):Int)) nm v)
 |0,j,h=>by
  have few:=a.few;rw [eQ,ifF (by omega),AL (by omega)];rfl
 |n+1,j,h=>by
  have c:=a.len8 i hi;rw [eQ,ifT (by omega),ifF (by omega),AL (by omega),ZN a hi n (j+1) (by omega)]
  cases b:D.strEq (cl (cl v i 8) j 0) k with
  |true=>
   have:fdG (fun j=>D.strEq (cl (cl v i 8) j 0) k) (n+1) j=j:=by rw [fdG];simp [b]
   rw [this,k0 (show ¬((j:Nat):Int)<0 by omega)];rfl
  |false=>
   have:fdG (fun j=>D.strEq (cl (cl v i 8) j 0) k) (n+1) j=fdG (fun j=>D.strEq (cl (cl v i 8) j 0) k) n (j+1):=by rw [fdG];simp [b]
   rw [this];rfl
theorem Y7 {v k nm:D} (a:FT v):∀n i,i+n=len v→RU k (.int (i:Nat)) nm v=.row [.int 1,.bool (!decide (fdG (fun i=>fU v k i) n i<0))]
 |0,i,h=>by
  rw [fL,ifF (by omega)];rfl
 |n+1,i,h=>by
  have hi:i<len v:=by omega
  have few:=a.few;obtain ⟨c,p⟩:=a.i1 i hi;obtain ⟨q,y⟩:=a.i2 i hi;obtain ⟨r,z⟩:=a.b3 i hi;obtain ⟨s,A⟩:=a.b4 i hi;obtain ⟨t,B⟩:=a.i5 i hi;obtain ⟨u,C⟩:=a.i6 i hi;obtain ⟨w,E⟩:=a.i7 i hi;obtain ⟨d,l⟩:=a.i13 i hi;obtain ⟨e,m⟩:=a.i14 i hi;have o:kd v i=c:=by unfold kd;rw [p];rfl
  have rest:=ZN (k:=k) (nm:=nm) a hi (x5:=cl v i 0) (x14:=cl v i 9) (x15:=cl v i 10) (x16:=cl v i 11) (x17:=cl v i 12) (x6:=c) (x7:=q) (x8:=r) (x9:=s) (x10:=t) (x11:=u) (x12:=w) (x18:=d) (x19:=e) (len (cl v i 8)) 0 (by omega)
  rw [Y7 a n (i+1) (by omega)] at rest
  rw [fL,ifT (by omega),ifF (by omega),p,y,z,A,B,C,E,l,m]
  have b:OV k (.int ((i:Nat):Int)) (.int 0) nm v (cl v i 0) (.int c) (.int q) (.bool r) (.bool s) (.int t) (.int u) (.int w) (cl v i 8) (cl v i 9) (cl v i 10) (cl v i 11) (cl v i 12) (.int d) (.int e)=cond (!decide (tU (cl v i 8) k<0)) (.row [.int 1,.bool true]) (.row [.int 1,.bool (!decide (fdG (fun i=>fU v k i) n (i+1)<0))]):=rest
  rw [b];have f:fU v k i=((decide (c=9)&&D.strEq (cl v i 10) k) || !decide (tU (cl v i 8) k<0)):=by unfold fU;rw [o]
  have yes:fU v k i=true→fdG (fun i=>fU v k i) (n+1) i=i:=fun h=>by rw [fdG];simp [h]
  have no:fU v k i=false→fdG (fun i=>fU v k i) (n+1) i=fdG (fun i=>fU v k i) n (i+1):=fun h=>by rw [fdG];simp [h]
  refine (?_:cond (decide (c=9)) (cond (D.strEq (cl v i 10) k) _ _) _=_);by_cases j:c=9
  ·rw [ifT j];cases x:D.strEq (cl v i 10) k with
   |true=>
    rw [qs,yes (by rw [f,x,oj j];rfl),k0 (show ¬((i:Nat):Int)<0 by omega)];rfl
   |false=>
    rw [lp];cases g:decide (tU (cl v i 8) k<0) with
    |true=>rw [no (by rw [f,x,g];simp)];rfl
    |false=>rw [yes (by rw [f,g];simp),k0 (show ¬((i:Nat):Int)<0 by omega)];rfl
  ·rw [ifF j];cases g:decide (tU (cl v i 8) k<0) with
   |true=>rw [no (by rw [f,g,k0 j];simp)];rfl
   |false=>rw [yes (by rw [f,g];simp),k0 (show ¬((i:Nat):Int)<0 by omega)];rfl
theorem gT {v k nm:D} (a:FT v):Vy nm v k=.row [.int 1,.bool (us v k)]:=by
 rw [zg];exact Y7 a (len v) 0 (by omega)
def isR (v:D) (i:Nat):Bool:=Fb (kd v i)&&us v (cl v i 0)
def rgN (v:D):Nat→Int
 |0=>0
 |n+1=>if isR v n=true then rgN v n+1 else rgN v n
theorem Lz {v:D}:∀n:Nat,0≤rgN v n∧rgN v n≤n
 |0=>⟨Aeg _,Aeg _⟩
 |n+1=>by
  have:=Lz (v:=v) n;rw [rgN];split<;>omega
theorem Eu {k:Int}:Fb k=true↔1≤k∧k≤3:=by
 unfold Fb;simp only [vy,ll];omega
theorem Ua {v nm:D} (b:FT v) {f:Nat} (l:f<len v):∀n i (c:Int),i+n=f+1→0≤c→c≤i→∃z:Int,KM (.int (f:Nat)) (.int c) (.int (i:Nat)) nm v=.row [.int 1,.int z]∧(i≤f→(0≤z↔isR v f=true))
 |0,i,c,h,d,o=>by
  rw [Ym,ifT (by omega)]
  exact ⟨_,rfl,fun h=>by omega⟩
 |n+1,i,c,h,d,o=>by
  have few:=b.few;have p:(cl v i 1).toInt=kd v i:=rfl;rw [Ym,ifF (by omega),ifT (by omega),ifF (by omega),AL (by omega),p,gT b]
  have skip:isR v i=false→∃z:Int,KM (.int (f:Nat)) (.int c) (.int ((i+1:Nat):Int)) nm v=.row [.int 1,.int z]∧(i≤f→(0≤z↔isR v f=true)):=fun g=>by
   obtain ⟨z,j,k⟩:=Ua b l n (i+1) c (by omega) d (by omega)
   by_cases e:i=f
   ·subst e;have q:n=0:=by omega
    subst q;rw [Ym,ifT (by omega)]
    exact ⟨-1,rfl,fun _=>⟨fun h=>by omega,fun h=>by rw [g] at h;cases h⟩⟩
   ·exact ⟨z,j,fun _=>k (by omega)⟩
  by_cases a1:kd v i<1
  ·rw [ifT a1];exact skip (by unfold isR;cases a:Fb (kd v i) with|true=>exact absurd (Eu.1 a) (by omega)|false=>rfl)
  ·rw [ifF a1];by_cases a2:3<kd v i
   ·rw [ifT a2];exact skip (by unfold isR;cases a:Fb (kd v i) with|true=>exact absurd (Eu.1 a) (by omega)|false=>rfl)
   ·rw [ifF a2,AK];have a:Fb (kd v i)=true:=Eu.2 ⟨by omega,by omega⟩
    refine (?_:∃z:Int,cond (us v (cl v i 0)) _ _=_∧_)
    cases m:us v (cl v i 0) with
    |false=>rw [lp];exact skip (by unfold isR;rw [a,m];rfl)
    |true=>
     have g:isR v i=true:=by unfold isR;rw [a,m];rfl
     rw [qs];by_cases e:i=f
     ·subst e;rw [ifT rfl];exact ⟨c,rfl,fun _=>⟨fun _=>g,fun _=>d⟩⟩
     ·rw [ifF (by omega),AM (by omega) (by omega)]
      obtain ⟨z,j,k⟩:=Ua b l n (i+1) (c+1) (by omega) (by omega) (by omega)
      exact ⟨z,j,fun _=>k (by omega)⟩
theorem Pe {v nm:D} (d:FT v):Fu nm v=.row [.int 1,.int (rgN v (len v))]:=by
 have few:=d.few;rw [qC]
 have g:∀n i,i+n=len v→RQ (.int (rgN v i)) (.int (i:Nat)) nm v=.row [.int 1,.int (rgN v (len v))]:=by
  intro n
  induction n with
  |zero=>
   intro i h;have:i=len v:=h;subst this;rw [fB,ifF (by omega)]
  |succ n ih=>
   intro i h;have l:=Lz (v:=v) i;obtain ⟨z,j,k⟩:=Ua (nm:=nm) d (f:=i) (by omega) (i+1) 0 0 (by omega) (by omega) (by omega)
   have c:VV nm v (.int (i:Nat))=.row [.int 1,.int z]:=by rw [xx];exact j
   rw [fB,ifT (by omega),c,AK,AL (by omega)]
   have a:=ih (i+1) (by omega)
   rw [rgN] at a;have e:=k (Aec _);refine (?_:cond (decide (z<0)) _ _=_);cases b:isR v i with
   |true=>
    rw [if_pos b] at a;rw [ifF (by have:=e.2 b;omega),AM (by omega) (by omega)];exact a
   |false=>
    rw [if_neg (by rw [b];decide)] at a
    rw [ifT (Int.not_le.1 fun h=>by have:=e.1 h;rw [b] at this;cases this)];exact a
 exact g (len v) 0 (by omega)
theorem db {t a k:D} (h:t.rows=a.rows):tU t k=tU a k:=by
 unfold tU;have b:len t=len a:=by unfold len;rw [h]
 have c:∀(j:Nat),cl t j 0=cl a j 0:=fun j=>by unfold cl;rw [h]
 rw [b];exact CW fun j _ _=>by rw [c]
theorem CP.us {v w k:D} (h:CP v w):Mc.us w k=Mc.us v k:=by
 unfold Mc.us;rw [h.ln];rw [CW (q:=fun i=>fU v k i)]
 intro j _ l;unfold fU kd;rw [h.o j (by omega) 1 (by decide) (by decide),h.o j (by omega) 10 (by decide) (by decide),db (h.r8 j (by omega))]
end
end Mc
set_option maxRecDepth 4000
namespace Mc
open Go Go.AE
section
variable [Ao]
section
variable {v0 v1 v3 v4 v6 v7:D} {v2 v5:Bool} {v8:Int}
theorem Tz {a b c d e f:Int} (h:len v4≤1000000):Fp v0 v1 (.bool v2) v3 v4 (.bool v5) v6 v7 (.int v8) (.int a) (.int b) (.int c) (.int d) (.int e) (.int f)=.row [.int 1,ad v4 (.row [.int a,.int b,.int c,.int d,.int e,.int f]),.bool false]:=by
 rw [qS,ifT (by omega)]
theorem Kt {a b c:Int} (h:len v4≤1000000):Bi v0 v1 (.bool v2) v3 v4 (.bool v5) v6 v7 (.int v8) (.int a) (.int b) (.int c)=.row [.int 1,ad v4 (.row [.int a,.int v8,.int b,.int (-1),.int (-1),.int c]),.bool false]:=by
 rw [uP,ey,AK];have:=Tz (v0:=v0) (v1:=v1) (v2:=v2) (v3:=v3) (v4:=v4) (v5:=v5) (v6:=v6) (v7:=v7) (v8:=v8) (a:=a) (b:=v8) (c:=b) (d:=-1) (e:=-1) (f:=c) h;rw [show sl (D.row [.int 1,.int a]) 1=.int a from rfl,this,AK];rfl
end
structure IT (T:D):Prop where
 sh:Sh2 T
 it:∀k v,lk T k=some v→∃n,v=.int n
theorem IT.cell {T k:D} (h:IT T) (l:¬mIx [.str] T (.row [k])<0):∃n,cl T (mIx [.str] T (.row [k])) 1=.int n:=by
 have:lk T k=some (cl T (mIx [.str] T (.row [k])) 1):=by unfold lk;rw [if_neg l]
 exact h.it k _ this
theorem VK {c q nm st T R:D} {b2:Bool} {f m:Int} (l:IT T) (o:len c≤10):∀n j (C:D) (b:Bool),j+n=len c→len C+n≤900000→∃a d,MH (.int f) c (.int (j:Nat)) nm q (.bool b2) st C (.bool b) T R (.int m)=.row [.int 1,a,.bool d]∧len a=len C+n
 |0,j,C,b,h,p=>by
  rw [fq _ _ _ _ _ _ _ _ _ _ _ _ rfl rfl,ifF (by omega)]
  exact ⟨C,b,rfl,rfl⟩
 |n+1,j,C,b,h,p=>by
  have nx:∀(i:D),len i=len C+1→∃a d,MH (.int f) c (.int ((j+1:Nat):Int)) nm q (.bool b2) st i (.bool false) T R (.int m)=.row [.int 1,a,.bool d]∧len a=len C+(n+1):=fun i u=>by
   obtain ⟨a,d,r,v⟩:=VK l o n (j+1) i false (by omega) (by omega)
   exact ⟨a,d,r,by omega⟩
  rw [fq _ _ _ _ _ _ _ _ _ _ _ _ rfl rfl,ifT (by omega),ifF (by omega),AL (by omega)]
  have step:∀x:Int,∀e:D,e=.int x→∃a d,cond (decide ((sl (Bi nm q (.bool b2) st C (.bool b) T R (.int m) (.int 8) (.int f) e) 0).toInt=1)) (cond (decide ((wrap .i64 ((len (sl (Bi nm q (.bool b2) st C (.bool b) T R (.int m) (.int 8) (.int f) e) 1):Int)-1))<0)) (.row []) (cond (decide ((wrap .i64 ((len (sl (Bi nm q (.bool b2) st C (.bool b) T R (.int m) (.int 8) (.int f) e) 1):Int)-1))<(len (sl (Bi nm q (.bool b2) st C (.bool b) T R (.int m) (.int 8) (.int f) e) 1):Int)))
    (MH (.int f) c (.int ((j+1:Nat):Int)) nm q (.bool b2) st (upd (sl (Bi nm q (.bool b2) st C (.bool b) T R (.int m) (.int 8) (.int f) e) 1) (wrap .i64 ((len (sl (Bi nm q (.bool b2) st C (.bool b) T R (.int m) (.int 8) (.int f) e) 1):Int)-1)) 4 (.int ((j:Nat):Int))) (sl (Bi nm q (.bool b2) st C (.bool b) T R (.int m) (.int 8) (.int f) e) 2) T R (.int m)) (.row []))) (.row [])=.row [.int 1,a,.bool d]∧len a=len C+(n+1):=fun x e s=>by
   subst s;rw [Kt (by omega),AK]
   have g:len (sl (D.row [.int 1,ad C (.row [.int 8,.int m,.int f,.int (-1),.int (-1),.int x]),.bool false]) 1)=len C+1:=by
    show len (ad C _)=_;rw [Dp]
   rw [g,AM (by omega) (by omega),ifF (by omega),ifT (by omega)]
   exact nx _ (by rw [ES];exact g)
  by_cases k:mIx [.str] T (.row [cl c j 2])<0
  ·rw [ifT k];exact step 0 _ rfl
  ·obtain ⟨x,t⟩:=l.cell k;rw [ifF k];exact step x _ t
theorem gj {q nm st C T R:D} {b2 b:Bool} {m k:Int} {x10 x18 x19 x20 x21 c:D} {x11 x12 x15 x16 x17 x23 x24:Int} {x13 x14:Bool} (e:IT T) (g:len c≤10) (j:len C≤800000) :
  ∃a d,U6 nm q (.bool b2) st C (.bool b) T R (.int m) (.int k) x10 (.int x11) (.int x12) (.bool x13) (.bool x14) (.int x15) (.int x16) (.int x17) x18 x19 x20 x21 c (.int x23) (.int x24)=.row [.int 1,a,.bool d]∧len a=len C+1+len c:=by
 rw [vd,Kt (by omega),AK]
 obtain ⟨a,d,h,i⟩:=VK (c:=c) (q:=q) (nm:=nm) (st:=st) (T:=T) (R:=R) (b2:=b2) (f:=k) (m:=m) e g (len c) 0 (ad C (.row [.int 7,.int m,.int k,.int (-1),.int (-1),.int (-1)])) false (by omega) (by rw [Dp];omega)
 exact ⟨a,d,h,by rw [i,Dp]⟩
structure RP (v nm R0:D) (k:Nat) (R:D):Prop where
 sh:Sh2 R
 at':lk R nm=some (.int (rgN v k))
 el:∀x,D.strEq nm x=false→lk R x=lk R0 x
section
variable {q nmP st B T v w nm R0:D} {b1 b5:Bool} {N:Int} {i L:Nat}
theorem V4 (hq:i<len q) (y:cl q i 0=nm) (hw:cl q i 1=w) (z:CP v w) (f:FT v) (Q:IT T) (hL:L≤90000):∀n k (C:D) (b:Bool) (R:D),k+n=len v→len C≤L+11*k→RP v nm R0 k R→
  ∃a s g,BV q (.bool b1) (.int N) (.int (i:Nat)) w (.int (len w:Int)) (.int (k:Nat)) nmP (.bool b5) st C (.bool b) (.int (i:Nat)) B (.int (i:Nat)) (.int (i:Nat)) (.int (i:Nat)) (.int (i:Nat)) T R=HH q (.bool b1) (.int N) (.int (wrap .i64 ((i:Nat)+1))) nmP (.bool b5) st a (.bool s) (.int (i:Nat)) B T g∧len a≤len C+11*n+1∧0<len a∧RP v nm R0 (len v) g
 |0,k,C,b,R,h,hC,hR=>by
  have few:=f.few;have hl:=z.ln;have:k=len v:=h;subst this;rw [fE _ _ _ _ _ _ _ _ _ _ _ _ _ _ _ _ _ _ _ _ rfl rfl rfl rfl rfl rfl rfl rfl,ifF (by omega),Kt (by omega),AK]
  exact ⟨_,_,R,rfl,by show len (ad C _)≤_;rw [Dp];omega,by show 0<len (ad C _);rw [Dp];omega,hR⟩
 |n+1,k,C,b,R,h,hC,hR=>by
  have few:=f.few;have hl:=z.ln;have l:k<len v:=by omega
  have S:len (cl w k 12)≤10:=by
   have:=f.len12 k l;show (cl w k 12).rows.length≤10;rw [z.r12 k l];exact this
  obtain ⟨p,U⟩:=f.i1 k l;obtain ⟨n2,h2⟩:=f.i2 k l;obtain ⟨n3,h3⟩:=f.b3 k l;obtain ⟨n4,h4⟩:=f.b4 k l;obtain ⟨n5,h5⟩:=f.i5 k l;obtain ⟨n6,h6⟩:=f.i6 k l;obtain ⟨n7,h7⟩:=f.i7 k l;obtain ⟨V,W⟩:=f.i13 k l;obtain ⟨X,Y⟩:=f.i14 k l;have o:∀c,c≠8→c≠12→cl w k c=cl v k c:=z.o k l
  have nx:∀(O:D) (b2:Bool) (P:D),len O≤len C+11→RP v nm R0 (k+1) P→∃a s g,BV q (.bool b1) (.int N) (.int (i:Nat)) w (.int (len w:Int)) (.int ((k+1:Nat):Int)) nmP (.bool b5) st O (.bool b2) (.int (i:Nat)) B (.int (i:Nat)) (.int (i:Nat)) (.int (i:Nat)) (.int (i:Nat)) T P=HH q (.bool b1) (.int N) (.int (wrap .i64 ((i:Nat)+1))) nmP (.bool b5) st a (.bool s) (.int (i:Nat)) B T g∧len a≤len C+11*(n+1)+1∧0<len a∧RP v nm R0 (len v) g:=fun O b2 P ae Z=>by
   obtain ⟨a,s,g,g1,g2,g3,g4⟩:=V4 hq y hw z f Q hL n (k+1) O b2 P (by omega) (by omega) Z
   exact ⟨a,s,g,g1,by omega,g3,g4⟩
  have keep:isR v k=false→RP v nm R0 (k+1) R:=fun E=>⟨hR.sh,by rw [hR.at',rgN,if_neg (by rw [E];decide)],hR.el⟩
  obtain ⟨H,aa,ab,af⟩:=gj (q:=q) (nm:=nmP) (st:=st) (C:=C) (T:=T) (R:=R) (b2:=b5) (b:=b) (m:=(i:Nat)) (k:=(k:Nat)) (x10:=cl w k 0) (x18:=cl w k 8) (x19:=cl w k 9) (x20:=cl w k 10) (x21:=cl w k 11) (c:=cl w k 12) (x11:=p) (x12:=n2) (x13:=n3) (x14:=n4) (x15:=n5) (x16:=n6) (x17:=n7) (x23:=V) (x24:=X) Q S (by omega)
  have g0:U6 nmP q (.bool b5) st C (.bool b) T R (.int (i:Nat)) (.int (k:Nat)) (cl w k 0) (cl w k 1) (cl w k 2) (cl w k 3) (cl w k 4) (cl w k 5) (cl w k 6) (cl w k 7) (cl w k 8) (cl w k 9) (cl w k 10) (cl w k 11) (cl w k 12) (cl w k 13) (cl w k 14)=.row [.int 1,H,.bool aa]:=by
   rw [o 1 (by decide) (by decide),o 2 (by decide) (by decide),o 3 (by decide) (by decide),o 4 (by decide) (by decide),o 5 (by decide) (by decide),o 6 (by decide) (by decide),o 7 (by decide) (by decide),o 13 (by decide) (by decide),o 14 (by decide) (by decide),U,h2,h3,h4,h5,h6,h7,W,Y]
   exact ab
  have e:∀G:Int,∃F,Bi nmP q (.bool b5) st C (.bool b) T R (.int (i:Nat)) (.int G) (.int (k:Nat)) (cl T (mIx [.str] T (.row [cl w k 9])) 1)=F∧(¬mIx [.str] T (.row [cl w k 9])<0→∃r,F=.row [.int 1,ad C r,.bool false]):=fun G=>⟨_,rfl,fun l=>by
   obtain ⟨x,t⟩:=Q.cell l;rw [t,Kt (by omega)];exact ⟨_,rfl⟩⟩
  obtain ⟨F5,g5,p5⟩:=e 9;obtain ⟨F6,g6,p6⟩:=e 6;obtain ⟨F7,g7,p7⟩:=e 5;have A:¬mIx [.str] R (.row [nm])<0:=(ET hR.at').1;have u:cl R (mIx [.str] R (.row [nm])) 1=.int (rgN v k):=(ET hR.at').2;have ac:(cl w k 1).toInt=p:=by rw [o 1 (by decide) (by decide),U];rfl
  have I:kd v k=p:=by unfold kd;rw [U];rfl
  have ag:=Lz (v:=v) k
  have g2:Fp nmP q (.bool b5) st C (.bool b) T (upd R (mIx [.str] R (.row [(cl q i 0)])) 1 (.int (wrap .i64 ((cl R (mIx [.str] R (.row [(cl q i 0)])) 1).toInt+1)))) (.int (i:Nat)) (sl (.row [.int 1,.int 4]) 1) (.int (i:Nat)) (.int (k:Nat)) (cl R (mIx [.str] R (.row [(cl q i 0)])) 1) (.int (-1)) (.int (-1))=.row [.int 1,ad C (.row [.int 4,.int (i:Nat),.int (k:Nat),.int (rgN v k),.int (-1),.int (-1)]),.bool false]:=by
   rw [y,u];exact Tz (by omega)
  have g3:Fp nmP q (.bool b5) st C (.bool b) T R (.int (i:Nat)) (sl (.row [.int 1,.int 4]) 1) (.int (i:Nat)) (.int (k:Nat)) (.int (-1)) (.int (-1)) (.int (-1))=.row [.int 1,ad C (.row [.int 4,.int (i:Nat),.int (k:Nat),.int (-1),.int (-1),.int (-1)]),.bool false]:=Tz (by omega)
  rw [fE _ _ _ _ _ _ _ _ _ _ _ _ _ _ _ _ _ _ _ _ g0 (ey 4) g2 g3 rfl g5 g6 g7,ifT (by omega),ifF (by omega),ifT (by omega),AL (by omega),ac]
  have J:∀r,len (ad C r)≤len C+11:=fun r=>by rw [Dp];omega
  have ref:∀{G:Int} {F:D},(¬mIx [.str] T (.row [cl w k 9])<0→∃r,F=.row [.int 1,ad C r,.bool false])→isR v k=false→∃a s g,cond (decide (mIx [.str] T (.row [(cl w k 9)])<0)) (cond (decide ((sl (Bi nmP q (.bool b5) st C (.bool b) T R (.int (i:Nat)) (.int G) (.int (k:Nat)) (.int 0)) 0).toInt=1)) (BV q (.bool b1) (.int N) (.int (i:Nat)) w (.int (len w:Int)) (.int ((k+1:Nat):Int)) nmP (.bool b5) st (sl (Bi nmP q (.bool b5) st C (.bool b) T R (.int (i:Nat)) (.int G) (.int (k:Nat)) (.int 0)) 1) (sl (Bi nmP q (.bool b5) st C (.bool b) T R (.int (i:Nat)) (.int G) (.int (k:Nat)) (.int 0)) 2) (.int (i:Nat)) B (.int (i:Nat)) (.int (i:Nat)) (.int (i:Nat)) (.int (i:Nat)) T R) (.row []))
    (cond (decide ((sl F 0).toInt=1)) (BV q (.bool b1) (.int N) (.int (i:Nat)) w (.int (len w:Int)) (.int ((k+1:Nat):Int)) nmP (.bool b5) st (sl F 1) (sl F 2) (.int (i:Nat)) B (.int (i:Nat)) (.int (i:Nat)) (.int (i:Nat)) (.int (i:Nat)) T R) (.row []))=HH q (.bool b1) (.int N) (.int (wrap .i64 ((i:Nat)+1))) nmP (.bool b5) st a (.bool s) (.int (i:Nat)) B T g∧len a≤len C+11*(n+1)+1∧0<len a∧RP v nm R0 (len v) g:=fun hp E=>by
   by_cases t:mIx [.str] T (.row [cl w k 9])<0
   ·rw [ifT t,Kt (by omega),AK];exact nx _ _ _ (J _) (keep E)
   ·obtain ⟨r,rfl⟩:=hp t;rw [ifF t,AK];exact nx _ _ _ (J _) (keep E)
  have d:Fb p=false→isR v k=false:=fun hn=>by unfold isR;rw [I,hn];rfl
  have K:∀m:Int,¬(1≤m∧m≤3)→Fb m=false:=fun m hm=>by cases hh:Fb m with|true=>exact absurd (Eu.1 hh) hm|false=>rfl
  by_cases k8:p=8
  ·rw [ifT k8];exact ref p7 (d (K _ (by omega)))
  rw [ifF k8];by_cases k7:p=7
  ·rw [ifT k7];exact ref p6 (d (K _ (by omega)))
  rw [ifF k7];by_cases k12:p=12
  ·rw [ifT k12];exact ref p5 (d (K _ (by omega)))
  rw [ifF k12];by_cases k9:p=9
  ·rw [ifT k9,AK];exact nx _ _ _ (by show len H≤_;omega) (keep (d (K _ (by omega))))
  rw [ifF k9,AK,ifF (by omega),ifT (by omega),y]
  have hu:Jp nm (cl q i 1) (cl w k 0)=.row [.int 1,.bool (us v (cl v k 0))]:=by
   rw [hw,gI (by omega) (fun j hj=>by show (cl w j 8).rows.length≤6;rw [z.r8 j (by omega)];exact f.len8 j (by omega)),z.us,o 0 (by decide) (by decide)]
  rw [hu]
  have num:Fb p=true→∃a s g,cond (decide ((sl (.row [.int 1,.bool (us v (cl v k 0))]) 0).toInt=1)) (cond ((sl (.row [.int 1,.bool (us v (cl v k 0))]) 1).toBool) (cond (decide ((mIx [.str] R (.row [nm]))<0)) (cond (decide ((sl (Fp nmP q (.bool b5) st C (.bool b) T (ad R (.row [nm,(.int 1)])) (.int (i:Nat)) (sl (.row [.int 1,.int 4]) 1) (.int (i:Nat)) (.int (k:Nat)) (.int 0) (.int (-1)) (.int (-1))) 0).toInt=1))
    (BV q (.bool b1) (.int N) (.int (i:Nat)) w (.int (len w:Int)) (.int ((k+1:Nat):Int)) nmP (.bool b5) st (sl (Fp nmP q (.bool b5) st C (.bool b) T (ad R (.row [nm,(.int 1)])) (.int (i:Nat)) (sl (.row [.int 1,.int 4]) 1) (.int (i:Nat)) (.int (k:Nat)) (.int 0) (.int (-1)) (.int (-1))) 1) (sl (Fp nmP q (.bool b5) st C (.bool b) T (ad R (.row [nm,(.int 1)])) (.int (i:Nat)) (sl (.row [.int 1,.int 4]) 1) (.int (i:Nat)) (.int (k:Nat)) (.int 0) (.int (-1)) (.int (-1))) 2) (.int (i:Nat)) B (.int (i:Nat)) (.int (i:Nat)) (.int (i:Nat)) (.int (i:Nat)) T (ad R (.row [nm,(.int 1)]))) (.row [])) (
    cond (decide ((sl (.row [.int 1,ad C (.row [.int 4,.int (i:Nat),.int (k:Nat),.int (rgN v k),.int (-1),.int (-1)]),.bool false]) 0).toInt=1)) (BV q (.bool b1) (.int N) (.int (i:Nat)) w (.int (len w:Int)) (.int ((k+1:Nat):Int)) nmP (.bool b5) st (sl (.row [.int 1,ad C (.row [.int 4,.int (i:Nat),.int (k:Nat),.int (rgN v k),.int (-1),.int (-1)]),.bool false]) 1) (sl (.row [.int 1,ad C (.row [.int 4,.int (i:Nat),.int (k:Nat),.int (rgN v k),.int (-1),.int (-1)]),.bool false]) 2) (.int (i:Nat)) B (.int (i:Nat)) (.int (i:Nat)) (.int (i:Nat)) (.int (i:Nat)) T (upd R (mIx [.str] R (.row [nm])) 1 (.int (wrap .i64 ((cl R (mIx [.str] R (.row [nm])) 1).toInt+1))))) (.row []))) (
    cond (decide ((sl (.row [.int 1,ad C (.row [.int 4,.int (i:Nat),.int (k:Nat),.int (-1),.int (-1),.int (-1)]),.bool false]) 0).toInt=1)) (BV q (.bool b1) (.int N) (.int (i:Nat)) w (.int (len w:Int)) (.int ((k+1:Nat):Int)) nmP (.bool b5) st (sl (.row [.int 1,ad C (.row [.int 4,.int (i:Nat),.int (k:Nat),.int (-1),.int (-1),.int (-1)]),.bool false]) 1) (sl (.row [.int 1,ad C (.row [.int 4,.int (i:Nat),.int (k:Nat),.int (-1),.int (-1),.int (-1)]),.bool false]) 2) (.int (i:Nat)) B (.int (i:Nat)) (.int (i:Nat)) (.int (i:Nat)) (.int (i:Nat)) T R) (.row []))) (.row [])=HH q (.bool b1) (.int N) (.int (wrap .i64 ((i:Nat)+1))) nmP (.bool b5) st a (.bool s) (.int (i:Nat)) B T g∧len a≤len C+11*(n+1)+1∧0<len a∧RP v nm R0 (len v) g:=fun hn=>by
   rw [AK];refine (?_:∃a s g,cond (us v (cl v k 0)) _ _=_∧_)
   cases M:us v (cl v k 0) with
   |false=>
    rw [lp,AK];exact nx _ _ _ (J _) (keep (by unfold isR;rw [M,Bool.and_false]))
   |true=>
    have E:isR v k=true:=by unfold isR;rw [I,hn,M];rfl
    rw [qs,ifF A,AK,u];refine nx _ _ _ (J _) ⟨hR.sh.upd,?_,fun x t=>?_⟩
    ·rw [Zk hR.sh A,if_pos Cj,rgN,if_pos E];show some (D.int (wrap .i64 (rgN v k+1)))=_;rw [AM (by omega) (by omega)]
    ·rw [Zk hR.sh A,if_neg (by rw [t];decide)];exact hR.el x t
  by_cases k1:p=1
  ·rw [ifT k1];exact num (Eu.2 (by omega))
  rw [ifF k1];by_cases k2:p=2
  ·rw [ifT k2];exact num (Eu.2 (by omega))
  rw [ifF k2];by_cases k3:p=3
  ·rw [ifT k3];exact num (Eu.2 (by omega))
  rw [ifF k3,AK];exact nx _ _ _ (J _) (keep (d (K _ (by omega))))
end
end
end Mc
set_option maxRecDepth 4000
namespace Mc
open Go Go.AE
section
variable [Ao]
def rg (a:D) (j:Nat):Int:=rgN (fsI a j) (len (fsI a j))
structure TS (ms:D) (i:Nat) (T:D):Prop where
 it:IT T
 no:∀x,(∀j,j<i→D.strEq (nmI ms j) x=false)→lk T x=none
structure RS (ms B:D) (i:Nat) (R:D):Prop where
 sh:Sh2 R
 yes:∀j,j<i→Kn B (nmI ms j)→lk R (nmI ms j)=some (.int (rg ms j))
 un:∀j,j<i→¬Kn B (nmI ms j)→lk R (nmI ms j)=none
 no:∀x,(∀j,j<i→D.strEq (nmI ms j) x=false)→lk R x=none
section
variable {ms q nmP st B M:D} {b1 b5:Bool} {dp:Nat→Int}
theorem Pd (I:GP ms (len ms) M dp) (X:len ms≤9) (K:BT B) (y:CM ms q):∀n i (C T R:D) (b:Bool) (m:Int),i+n=len ms→0<len C→len C≤2+178*i→TS ms i T→RS ms B i R→
  ∃w z O r,HH q (.bool b1) (.int (len ms:Int)) (.int (i:Nat)) nmP (.bool b5) st C (.bool b) (.int m) B T R=.row [.int 2,nmP,q,.bool b5,st,w,.bool z,O,r]∧0<len w∧RS ms B (len ms) r
 |0,i,C,T,R,b,m,h,J,Y,g,hR=>by
  have:i=len ms:=h;subst this;rw [fM,ifF (by omega)]
  by_cases c:mIx [.str] T (.row [st])<0
  ·rw [ifT c,ifT (by omega)];exact ⟨_,_,_,_,rfl,by rw [ES];exact J,hR⟩
  ·rw [ifF c,ifT (by omega)];exact ⟨_,_,_,_,rfl,by rw [ES];exact J,hR⟩
 |n+1,i,C,T,R,b,m,h,J,Y,g,hR=>by
  have hi:i<len ms:=by omega
  have Z:=y.ln;have A:cl q i 0=nmI ms i:=y.nm i hi;have e:∀j,j<i→D.strEq (nmI ms j) (nmI ms i)=false:=fun j f=>I.dist j i f hi
  rw [fM,ifT (by omega),ifF (by omega),ifT (by omega),AL (by omega),A]
  by_cases E:mIx [.str] B (.row [nmI ms i])<0
  ·rw [ifT E];have P:¬Kn B (nmI ms i):=fun hh=>hh E
   refine Pd I X K y n (i+1) C T R b m (by omega) J (by omega) ⟨g.it,fun x c=>g.no x fun j f=>c j (by omega)⟩ ⟨hR.sh,fun j f d=>?_,fun j f d=>?_,fun x c=>hR.no x fun j f=>c j (by omega)⟩
   ·rcases gg j i with a|a
    ·exact hR.yes j a d
    ·have:j=i:=by omega
     subst this;exact absurd d P
   ·rcases gg j i with a|a
    ·exact hR.un j a d
    ·have:j=i:=by omega
     subst this;exact hR.no _ e
  ·have d:Kn B (nmI ms i):=E;have s:cl B (mIx [.str] B (.row [nmI ms i])) 1=.bool true:=K.tr (nmI ms i) _ (by unfold lk;rw [if_neg E])
   have Q:=Qh (g.no _ e);have S:=Qh (hR.no _ e);have F:=I.fo i hi;have few:=F.ft.few;have G:CP (fsI ms i) (cl q i 1):=y.fs i hi;have aa:=G.ln;rw [ifF E,s];refine (?_:∃w z O r,cond true _ _=_∧_)
   rw [qs,ifT Q,ifT S,P9,P9,Kt (by omega),AK]
   have H:IT (ad T (.row [nmI ms i,.int (len C:Int)])):=⟨g.it.sh.ad,fun k v o=>by
    rw [HP g.it.sh] at o;cases t:lk T k with
    |some u=>rw [t] at o;cases o;exact g.it.it k _ t
    |none=>
     rw [t] at o;simp only at o;split at o
     ·cases o;exact ⟨_,rfl⟩
     ·cases o⟩
   have U:RP (fsI ms i) (nmI ms i) (ad R (.row [nmI ms i,.int 0])) 0 (ad R (.row [nmI ms i,.int 0])):=⟨hR.sh.ad,by rw [HP hR.sh,hR.no _ e];simp [Cj,rgN],fun x _=>rfl⟩
   obtain ⟨w,z,r,g1,g2,g3,V⟩:=V4 (q:=q) (nmP:=nmP) (st:=st) (B:=B) (b1:=b1) (b5:=b5) (N:=(len ms:Int)) (L:=3+178*i) (by omega) A rfl G F.ft H (by omega) (len (fsI ms i)) 0 (ad C (.row [.int 3,.int (i:Nat),.int (-1),.int (-1),.int (-1),.int (-1)])) false (ad R (.row [nmI ms i,.int 0])) (by omega) (by rw [Dp];omega) U
   refine (?_:∃w z O r,BV q (.bool b1) (.int (len ms:Int)) (.int (i:Nat)) (cl q i 1) (.int (len (cl q i 1):Int)) (.int ((0:Nat):Int)) nmP (.bool b5) st (ad C (.row [.int 3,.int (i:Nat),.int (-1),.int (-1),.int (-1),.int (-1)])) (.bool false) (.int (i:Nat)) B (.int (i:Nat)) (.int (i:Nat)) (.int (i:Nat)) (.int (i:Nat)) (ad T (.row [nmI ms i,.int (len C:Int)])) (ad R (.row [nmI ms i,.int 0]))=_∧_)
   rw [g1,AL (by omega)]
   rw [Dp] at g2
   have W:∀x,D.strEq (nmI ms i) x=false→lk r x=lk R x:=fun x c=>by
    rw [V.el x c,HP hR.sh];cases lk R x with
    |some u=>rfl
    |none=>simp [c]
   have p:∀j,j<i→D.strEq (nmI ms i) (nmI ms j)=false:=fun j f=>by rw [AR];exact e j f
   refine Pd I X K y n (i+1) w _ r z _ (by omega) g3 (by omega) ⟨H,fun x c=>?_⟩ ⟨V.sh,fun j f l=>?_,fun j f l=>?_,fun x c=>?_⟩
   ·rw [HP g.it.sh,g.no x fun j f=>c j (by omega)]
    simp [c i (by omega)]
   ·rcases gg j i with a|a
    ·rw [W _ (p j a)];exact hR.yes j a l
    ·have:j=i:=by omega
     subst this;exact V.at'
   ·rcases gg j i with a|a
    ·rw [W _ (p j a)];exact hR.un j a l
    ·have:j=i:=by omega
     subst this;exact absurd d l
   ·rw [W x (c i (by omega))];exact hR.no x fun j f=>c j (by omega)
end
theorem lc {a c st M:D} {y:Nat→Int} (e:Gu a c st=.row [.int 1,.bool true]) (z:TD c) (f:GP c (len c) M y) (g:len c≤9) (A:Kn M st) :
  ∃q b5 C b T R B,A6 a c st=.row [.int 2,a,q,.bool b5,st,C,.bool b,T,R]∧0<len C∧BT B∧RS c B (len c) R∧Kn B st∧∀j,j<len c→Kn B (nmI c j)→∀r∈rfs c j,Kn B r:=by
 have h:∀m:Nat,m<len c→FT (cl c m 1):=fun m E=>(f.fo m E).ft
 obtain ⟨q,b5,i,t⟩:=iA (a:=a) (st:=st) z g h;obtain ⟨B,l,u,n,o⟩:=jb a st f g (a:=a) (b:=a) A;rw [vO,e,AK];refine (?_:∃q b5 C b T R B,cond true _ _=_∧_)
 rw [qs,i,AK];have d:R9 a c st (ad Af (.row [(sl (.row [.int 1,a,q,.bool b5,st]) 4)])) (.bool false)=.row [.int 1,B]:=l;rw [d,AK];have K:∀x:D,lk Af x=none:=fun x=>rfl
 obtain ⟨F,b',G,H,w,I,J⟩:=Pd (nmP:=a) (st:=st) (b1:=b5) (b5:=b5) f g u t (len c) 0 (ad (ad Af (.row [(.int 1),(.int (-1)),(.int (-1)),(.int (-1)),(.int (-1)),(.int (-1))])) (.row [(.int 2),(.int (-1)),(.int (-1)),(.int (-1)),(.int (-1)),(.int (-1))])) Af Af false 0 (by omega) (by decide) (by show 2≤_;omega) ⟨⟨Sh2.empty,fun k v h=>by cases h⟩,fun x _=>rfl⟩ ⟨Sh2.empty,fun j p=>absurd p (hH _),fun j p=>absurd p (hH _),fun x _=>rfl⟩
 have s:(len q:Int)=len c:=by rw [t.ln]
 rw [←s] at w;exact ⟨q,b5,F,b',G,H,B,w,I,u,J,n,o⟩
theorem Py {x0 x1 x3 C x6 R k:D} {x2 x5:Bool} (a:0<len C):Bn x0 x1 (.bool x2) x3 C (.bool x5) x6 R k=match lk R k with|some v=>.row [.int 1,v,.int 0]|none=>.row [.int 1,.int 0,.int 9]:=by
 rw [zD,ifF (by omega)]
 unfold lk;by_cases h:mIx [.str] R (.row [k])<0
 ·rw [ifT h,if_pos h]
 ·rw [ifF h,if_neg h]
end
end Mc
set_option maxRecDepth 4000
namespace Mc
open Go Go.AE
section
variable [Ao]
theorem dJ {v:D} (h:BO v=true):Cz v≠0:=by
 intro a
 have b:GS v=.row [.int 1,.bool false]:=by
  rw [eh];refine (?_:cond (decide ((sl (BI (l2 (!decide ((Cz v:Int)<1)) _) (.bool false) (.bool false)) 0).toInt=1)) (cond (decide ((sl (BI (l2 (!decide ((Cz v:Int)<1)) _) (.bool false) (.bool false)) 1).toInt<0)) _ _) _=_);rw [Wk,a];rfl
 unfold BO at h;rw [b] at h;cases h
theorem Yy {a b:D} (h:BO a=true) (c:D.strEq a b=true):eqC b 0 0=false:=by
 have d:=dJ h;rw [XP];have e:Cz b=Cz a:=by unfold Cz;rw [Dv.1 c]
 rw [e,k0 d]
structure JL (f:D→Int) (L:List D) (m:Int):Prop where
 nn:0≤m
 le:∀r∈L,f r≤m
 at':m=0∨∃r∈L,f r=m
theorem JL.uniq {f:D→Int} {L:List D} {m l:Int} (h:JL f L m) (h':JL f L l):m=l:=by
 have t:∀{a b},JL f L a→JL f L b→a≤b:=fun {a b} J I=>by
  rcases J.at' with e|⟨r,hr,e⟩
  ·have:=I.nn;omega
  ·have:=I.le r hr;omega
 have h1:=t h h';have h2:=t h' h;omega
def mxL (f:D→Int):List D→Int
 |[]=>0
 |r::L=>if mxL f L<f r then f r else mxL f L
theorem P7 {f:D→Int}:∀L:List D,JL f L (mxL f L)
 |[]=>⟨Aeg _,(fun r b=>by cases b),.inl rfl⟩
 |r::L=>by
  have h:=P7 (f:=f) L;have c:=h.nn;rw [mxL];split
  ·refine ⟨by omega,fun x a=>?_,.inr ⟨r,Aef,rfl⟩⟩
   rcases gk.1 a with e|e
   ·subst e;omega
   ·have:=h.le x e;omega
  ·refine ⟨c,fun x a=>?_,h.at'.imp id fun ⟨y,d,e⟩=>⟨y,Ad8 _ d,e⟩⟩
   rcases gk.1 a with e|e
   ·subst e;omega
   ·exact h.le x e
theorem J7 {f g:D→Int}:∀L:List D,(∀r∈L,f r=g r)→mxL f L=mxL g L
 |[],_=>rfl
 |r::L,h=>by rw [mxL,mxL,J7 L fun x a=>h x (Ad8 _ a),h r Aef]
def ixI (a r:D):Nat:=(ixN a (len a) r).toNat
def RGn (a:D):Nat→Nat→Int
 |0,_=>0
 |k+1,i=>rg a i+mxL (fun r=>RGn a k (ixI a r)) (rfs a i)
def RG (a:D) (i:Nat):Int:=RGn a (i+1) i
def rv (a r:D):Int:=RG a (ixI a r)
section
variable {ms M:D} {dp:Nat→Int}
theorem GP.ref' (t:GP ms (len ms) M dp) {i:Nat} (hi:i<len ms) {r:D} (I:r∈rfs ms i):ixI ms r<i∧ixN ms (len ms) r=(ixI ms r:Nat)∧D.strEq (nmI ms (ixI ms r)) r=true∧dp (ixI ms r)<dp i:=by
 obtain ⟨j,J,l,h2,h3⟩:=t.ref hi I;have e:ixI ms r=j:=by unfold ixI;rw [l];simp
 rw [e];exact ⟨J,l,h2,h3⟩
theorem YB (b:GP ms (len ms) M dp):∀n i k,i≤n→i<k→i<len ms→RGn ms k i=RG ms i:=by
 intro n
 induction n with
 |zero=>
  intro i k c d a;have e:i=0:=by omega
  subst e;obtain ⟨k,rfl⟩:∃j,k=j+1:=⟨k-1,by omega⟩
  unfold RG;rw [RGn,RGn,Fj b a];rfl
 |succ n ih=>
  intro i k c d a;obtain ⟨k,rfl⟩:∃j,k=j+1:=⟨k-1,by omega⟩
  unfold RG;rw [RGn,RGn]
  congr 1
  refine J7 _ fun r f=>?_
  obtain ⟨g,_⟩:=b.ref' a f;rw [ih _ k (by omega) (by omega) (by omega),ih _ i (by omega) (by omega) (by omega)]
theorem Ob (a:GP ms (len ms) M dp) {i:Nat} (hi:i<len ms):RG ms i=rg ms i+mxL (rv ms) (rfs ms i):=by
 have b:=YB a i i (i+1+1) (IqQ _) (by omega) hi
 rw [←b,RGn]
 congr 1
 refine J7 _ fun r c=>?_
 obtain ⟨d,_⟩:=a.ref' hi c;exact YB a i _ _ (by omega) (by omega) (by omega)
theorem GG (a:GP ms (len ms) M dp) {i:Nat} (hi:i<len ms):0≤rg ms i∧rg ms i≤16:=by
 have h:=Lz (v:=fsI ms i) (len (fsI ms i));have few:=(a.fo i hi).ft.few;unfold rg;omega
theorem kC (b:GP ms (len ms) M dp):∀n i,i≤n→i<len ms→0≤RG ms i∧RG ms i≤16*(i+1):=by
 intro n
 induction n with
 |zero=>
  intro i d a;have g:i=0:=by omega
  subst g;have:=GG b a;rw [Ob b a,Fj b a];show 0≤rg ms 0+0∧rg ms 0+0≤_;omega
 |succ n ih=>
  intro i d a;have j:=GG b a;rw [Ob b a];have h:=P7 (f:=rv ms) (rfs ms i);have k:=h.nn;refine ⟨by omega,?_⟩
  rcases h.at' with e|⟨r,c,e⟩
  ·omega
  ·obtain ⟨l,_⟩:=b.ref' a c;have:=ih (ixI ms r) (by omega) (by omega)
   have m:RG ms (ixI ms r)=_:=e;omega
theorem Jw {a b:D} (h:D.strEq a b=true):rv ms a=rv ms b:=by unfold rv ixI;rw [Hi h]
theorem Pc (a:GP ms (len ms) M dp) {i:Nat} (hi:i<len ms) (d:len ms≤9) {m:Int} (b:JL (rv ms) (rfs ms i) m):0≤m∧m≤150∧RG ms i=rg ms i+m:=by
 have e:=(P7 (f:=rv ms) (rfs ms i)).uniq b;have c:=Ob a hi;have g:=kC a i i (IqQ _) hi;have h:=GG a hi;have j:=b.nn;rw [e] at c;omega
theorem j3 (x:GP ms (len ms) M dp) {S l:D} {i:Nat} (hi:i<len ms) (a:l.rows=nms (rfs ms i)) (C:∀r∈rfs ms i,lk S r=some (.int (rv ms r))):∃m,OA S (.int 0) l=.row [.int 1,.int m]∧JL (rv ms) (rfs ms i) m:=by
 have E:=Gb (x.fo i hi).ft _ (IqQ _);have few:=(x.fo i hi).ft.few;have y:len l=(rfs ms i).length:=by show l.rows.length=_;rw [a];simp [nms]
 have F:(rfs ms i).length≤160:=by unfold rfs;omega
 have f:∀j (b:j<(rfs ms i).length),cl l j 0=(rfs ms i)[j]:=fun j b=>E6 a b
 have G:∀k q (m:Int),q+k=len l→0≤m→(∀j (b:j<(rfs ms i).length),j<q→rv ms (rfs ms i)[j]≤m)→(m=0∨∃r∈rfs ms i,rv ms r=m)→∃w,IS l (.int (q:Nat)) S (.int m)=.row [.int 1,.int w]∧JL (rv ms) (rfs ms i) w:=by
  intro k
  induction k with
  |zero=>
   intro q m h A c g;rw [fv,ifF (by omega)]
   refine ⟨m,rfl,A,fun r s=>?_,g⟩
   obtain ⟨j,b,rfl⟩:=ud s;exact c j b (by omega)
  |succ k ih=>
   intro q m h A c g;have t:q<(rfs ms i).length:=by omega
   obtain ⟨z,H,u,_⟩:=PA (l:=l) (i:=q) (by omega) (by omega)
   have d:(rfs ms i)[q]∈rfs ms i:=Aei t
   have nx:∀n,m≤n→rv ms (rfs ms i)[q]≤n→(n=m∨rv ms (rfs ms i)[q]=n)→∃w,IS l (.int ((q+1:Nat):Int)) S (.int n)=.row [.int 1,.int w]∧JL (rv ms) (rfs ms i) w:=fun n v s I=>by
    refine ih (q+1) n (by omega) (by omega) (fun j b J=>?_) ?_
    ·rcases gg j q with p|p
     ·have:=c j b p;omega
     ·have:j=q:=by omega
      subst this;exact s
    ·rcases I with e|e
     ·subst e;exact g
     ·exact .inr ⟨_,d,e⟩
   rw [fv,ifT (by omega),ifF (by omega),ifF (by omega),H,AL (by omega),AK]
   refine (?_:∃w:Int,cond (decide (z<0)) _ _=_∧_)
   by_cases o:z<0
   ·obtain ⟨K,L⟩:=ET (C _ d);rw [ifT o,f q t,ifF K,L];refine (?_:∃w:Int,cond (decide (m<rv ms (rfs ms i)[q])) _ _=_∧_)
    by_cases v:m<rv ms (rfs ms i)[q]
    ·rw [ifT v];exact nx _ (by omega) (by omega) (.inr rfl)
    ·rw [ifF v];exact nx _ (by omega) (by omega) (.inl rfl)
   ·rw [ifF o];obtain ⟨j,b,B⟩:=u o;rw [f q t,f j (by omega)] at B
    have:=c j (by omega) b
    refine nx m (by omega) ?_ (.inl rfl)
    rw [Jw B];exact this
 rw [rD];exact G (len l) 0 0 (by omega) (by omega) (fun j b h=>absurd h (hH _)) (.inl rfl)
structure SS (ms B:D) (i:Nat) (S:D):Prop where
 sh:Sh2 S
 yes:∀j,j<i→Kn B (nmI ms j)→lk S (nmI ms j)=some (.int (RG ms j))
 un:∀j,j<i→¬Kn B (nmI ms j)→lk S (nmI ms j)=none
 no:∀x,(∀j,j<i→D.strEq (nmI ms j) x=false)→lk S x=none
theorem SS.zero {ms B:D}:SS ms B 0 Af:=⟨Sh2.empty,fun j l=>absurd l (hH _),fun j l=>absurd l (hH _),fun x _=>rfl⟩
def SR (ms B:D) (F:Int→D→D) (p:Nat):Prop:=∀(i:Nat) S,p≤i→i≤len ms→SS ms B i S→∃a,F i S=.row [.int 1,a]∧SS ms B (len ms) a
section
variable {B R v2 v3 v5 v6 v8:D} {v4 v7:Bool}
theorem SS.none {i:Nat} {S:D} (J:GP ms (len ms) M dp) (hi:i<len ms) (l:SS ms B i S) (hn:¬Kn B (nmI ms i)):SS ms B (i+1) S:=by
 have I:∀j,j<i→D.strEq (nmI ms j) (nmI ms i)=false:=fun j r=>J.dist j i r hi
 refine ⟨l.sh,fun j r t=>?_,fun j r t=>?_,fun x hx=>l.no x fun j r=>hx j (by omega)⟩
 ·rcases gg j i with h|h
  ·exact l.yes j h t
  ·have:j=i:=by omega
   subst this;exact absurd t hn
 ·rcases gg j i with h|h
  ·exact l.un j h t
  ·have:j=i:=by omega
   subst this;exact l.no _ I
theorem SS.some {i:Nat} {S:D} (hG:GP ms (len ms) M dp) (hi:i<len ms) (r:SS ms B i S) (hk:Kn B (nmI ms i)):SS ms B (i+1) (ad S (.row [nmI ms i,.int (RG ms i)])):=by
 have I:∀j,j<i→D.strEq (nmI ms j) (nmI ms i)=false:=fun j t=>hG.dist j i t hi
 have l:∀j,j<i→D.strEq (nmI ms i) (nmI ms j)=false:=fun j t=>by rw [AR];exact I j t
 have fl:∀x,D.strEq (nmI ms i) x=false→lk (ad S (.row [nmI ms i,.int (RG ms i)])) x=lk S x:=fun x hx=>by
  rw [HP r.sh];cases lk S x with
  |some u=>rfl
  |none=>simp [hx]
 refine ⟨r.sh.ad,fun j t hk=>?_,fun j t J=>?_,fun x hx=>?_⟩
 ·rcases gg j i with h|h
  ·rw [fl _ (l j h)];exact r.yes j h hk
  ·have:j=i:=by omega
   subst this;rw [HP r.sh,r.no _ I];simp [Cj]
 ·rcases gg j i with h|h
  ·rw [fl _ (l j h)];exact r.un j h J
  ·have:j=i:=by omega
   subst this;exact absurd hk J
 ·rw [fl x (hx i (by omega))];exact r.no x fun j t=>hx j (by omega)
theorem lK (a:0<len v6) (hR:RS ms B (len ms) R) {i:Nat} (hi:i<len ms):Bn v2 v3 (.bool v4) v5 v6 (.bool v7) v8 R (nmI ms i)=(if mIx [.str] B (.row [nmI ms i])<0 then .row [.int 1,.int 0,.int 9] else .row [.int 1,.int (rg ms i),.int 0]):=by
 rw [Py a];by_cases h:mIx [.str] B (.row [nmI ms i])<0
 ·rw [if_pos h,hR.un i hi (fun b=>b h)]
 ·rw [if_neg h,hR.yes i hi h]
theorem CA (a:GP ms (len ms) M dp) (A:len ms≤9) (C:0<len v6) (E:BT B) (hR:RS ms B (len ms) R) (e:∀j,j<len ms→Kn B (nmI ms j)→∀r∈rfs ms j,Kn B r) {F G:Int→D→D} {p:Nat} (f:SR ms B G (p+1)) (S:D) (u:∀i,F i S=ST ms v2 v3 v4 v5 v6 v7 v8 R F G i S) :
  ∀n (i:Nat),i+n=len ms→p≤i→SS ms B i S→∃s,F i S=.row [.int 1,s]∧SS ms B (len ms) s
 |0,i,h,J,b=>by
  have:i=len ms:=h;subst this;rw [u];unfold ST;rw [ifF (by omega)];exact ⟨S,rfl,b⟩
 |n+1,i,h,J,b=>by
  have hi:i<len ms:=by omega
  have v:∀j,j<i→D.strEq (nmI ms j) (nmI ms i)=false:=fun j w=>a.dist j i w hi
  rw [u];unfold ST;have x:=lK (v2:=v2) (v3:=v3) (v4:=v4) (v5:=v5) (v7:=v7) (v8:=v8) C hR hi;have g:Bn v2 v3 (.bool v4) v5 v6 (.bool v7) v8 R (cl ms i 0)=_:=x;rw [ifT (by omega),ifF (by omega),g,AL (by omega)]
  by_cases t:mIx [.str] B (.row [nmI ms i])<0
  ·rw [if_pos t,AK];refine (?_:∃s,cond (decide ((9:Int)=0)) _ _=_∧_)
   rw [ifF (by decide)]
   exact CA a A C E hR e f S u n (i+1) (by omega) (by omega) (b.none a hi (fun K=>K t))
  ·rw [if_neg t,AK];have k:Kn B (nmI ms i):=t;obtain ⟨l,o,c⟩:=MJ (v0:=cl ms i 0) (a.fo i hi).ft;have d:AJ (cl ms i 0) (cl ms i 1)=.row [.int 1,l]:=o
   obtain ⟨m,y,L⟩:=j3 a (S:=S) hi c fun r H=>by
    obtain ⟨w,P,I,_⟩:=a.ref' hi H;have N:=e i hi k r H;have z:Kn B (nmI ms (ixI ms r)):=N.congr E.sh (by rw [AR];exact I)
    rw [←En b.sh I];exact b.yes _ w z
   have q:OA S (.int 0) (sl (.row [.int 1,l]) 1)=.row [.int 1,.int m]:=y;obtain ⟨m0,m1,m2⟩:=Pc a hi A L;have O:=GG a hi;rw [d,q];refine (?_:∃s,cond (decide (mIx [.str] S (.row [nmI ms i])<0)) (G ((i+1:Nat):Int) (ad S (.row [nmI ms i,.int (wrap .i64 (rg ms i+m))]))) _=_∧_)
   rw [ifT (Qh (b.no _ v)),AM (by omega) (by omega),←m2]
   exact f (i+1) _ (by omega) (by omega) (b.some a hi k)
section
variable (v2 v3 v5 v8:D) (v4 v7:Bool)
theorem Ac2 (b:len ms≤9):SR ms B (fun i S=>J6 ms (.int i) v2 v3 (.bool v4) v5 v6 (.bool v7) v8 R S) 9:=by
 intro i S c d a;have:i=len ms:=by omega
 subst this;show ∃e,J6 _ _ _ _ _ _ _ _ _ _ _=_∧_
 rw [gJ,ifF (by omega)];exact ⟨S,rfl,a⟩
theorem sm9 (c:GP ms (len ms) M dp) (b:len ms≤9) (d:0<len v6) (e:BT B) (hR:RS ms B (len ms) R) (a:∀j,j<len ms→Kn B (nmI ms j)→∀r∈rfs ms j,Kn B r):SR ms B (fun i S=>N8 ms (.int i) v2 v3 (.bool v4) v5 v6 (.bool v7) v8 R S) 8:=fun i S f h g=>
 CA (v2:=v2) (v3:=v3) (v4:=v4) (v5:=v5) (v7:=v7) (v8:=v8) c b d e hR a (F:=fun i S=>N8 ms (.int i) v2 v3 (.bool v4) v5 v6 (.bool v7) v8 R S) (G:=fun i S=>J6 ms (.int i) v2 v3 (.bool v4) v5 v6 (.bool v7) v8 R S) (Ac2 v2 v3 v5 v8 v4 v7 b) S (fun i=>wA ms i v2 v3 v4 v5 v6 v7 v8 R S) (len ms-i) i (by omega) f g
theorem sm8 (b:GP ms (len ms) M dp) (c:len ms≤9) (d:0<len v6) (e:BT B) (hR:RS ms B (len ms) R) (a:∀j,j<len ms→Kn B (nmI ms j)→∀r∈rfs ms j,Kn B r):SR ms B (fun i S=>NF ms (.int i) v2 v3 (.bool v4) v5 v6 (.bool v7) v8 R S) 7:=fun i S f h g=>
 CA (v2:=v2) (v3:=v3) (v4:=v4) (v5:=v5) (v7:=v7) (v8:=v8) b c d e hR a (F:=fun i S=>NF ms (.int i) v2 v3 (.bool v4) v5 v6 (.bool v7) v8 R S) (G:=fun i S=>N8 ms (.int i) v2 v3 (.bool v4) v5 v6 (.bool v7) v8 R S) (sm9 v2 v3 v5 v8 v4 v7 b c d e hR a) S (fun i=>yu ms i v2 v3 v4 v5 v6 v7 v8 R S) (len ms-i) i (by omega) f g
theorem sm7 (b:GP ms (len ms) M dp) (c:len ms≤9) (d:0<len v6) (e:BT B) (hR:RS ms B (len ms) R) (a:∀j,j<len ms→Kn B (nmI ms j)→∀r∈rfs ms j,Kn B r):SR ms B (fun i S=>OL ms (.int i) v2 v3 (.bool v4) v5 v6 (.bool v7) v8 R S) 6:=fun i S f h g=>
 CA (v2:=v2) (v3:=v3) (v4:=v4) (v5:=v5) (v7:=v7) (v8:=v8) b c d e hR a (F:=fun i S=>OL ms (.int i) v2 v3 (.bool v4) v5 v6 (.bool v7) v8 R S) (G:=fun i S=>NF ms (.int i) v2 v3 (.bool v4) v5 v6 (.bool v7) v8 R S) (sm8 v2 v3 v5 v8 v4 v7 b c d e hR a) S (fun i=>sG ms i v2 v3 v4 v5 v6 v7 v8 R S) (len ms-i) i (by omega) f g
theorem sm6 (b:GP ms (len ms) M dp) (c:len ms≤9) (d:0<len v6) (e:BT B) (hR:RS ms B (len ms) R) (a:∀j,j<len ms→Kn B (nmI ms j)→∀r∈rfs ms j,Kn B r):SR ms B (fun i S=>Oi ms (.int i) v2 v3 (.bool v4) v5 v6 (.bool v7) v8 R S) 5:=fun i S f h g=>
 CA (v2:=v2) (v3:=v3) (v4:=v4) (v5:=v5) (v7:=v7) (v8:=v8) b c d e hR a (F:=fun i S=>Oi ms (.int i) v2 v3 (.bool v4) v5 v6 (.bool v7) v8 R S) (G:=fun i S=>OL ms (.int i) v2 v3 (.bool v4) v5 v6 (.bool v7) v8 R S) (sm7 v2 v3 v5 v8 v4 v7 b c d e hR a) S (fun i=>yV ms i v2 v3 v4 v5 v6 v7 v8 R S) (len ms-i) i (by omega) f g
theorem sm5 (b:GP ms (len ms) M dp) (c:len ms≤9) (d:0<len v6) (e:BT B) (hR:RS ms B (len ms) R) (a:∀j,j<len ms→Kn B (nmI ms j)→∀r∈rfs ms j,Kn B r):SR ms B (fun i S=>OI ms (.int i) v2 v3 (.bool v4) v5 v6 (.bool v7) v8 R S) 4:=fun i S f h g=>
 CA (v2:=v2) (v3:=v3) (v4:=v4) (v5:=v5) (v7:=v7) (v8:=v8) b c d e hR a (F:=fun i S=>OI ms (.int i) v2 v3 (.bool v4) v5 v6 (.bool v7) v8 R S) (G:=fun i S=>Oi ms (.int i) v2 v3 (.bool v4) v5 v6 (.bool v7) v8 R S) (sm6 v2 v3 v5 v8 v4 v7 b c d e hR a) S (fun i=>qa ms i v2 v3 v4 v5 v6 v7 v8 R S) (len ms-i) i (by omega) f g
theorem sm4 (b:GP ms (len ms) M dp) (c:len ms≤9) (d:0<len v6) (e:BT B) (hR:RS ms B (len ms) R) (a:∀j,j<len ms→Kn B (nmI ms j)→∀r∈rfs ms j,Kn B r):SR ms B (fun i S=>OG ms (.int i) v2 v3 (.bool v4) v5 v6 (.bool v7) v8 R S) 3:=fun i S f h g=>
 CA (v2:=v2) (v3:=v3) (v4:=v4) (v5:=v5) (v7:=v7) (v8:=v8) b c d e hR a (F:=fun i S=>OG ms (.int i) v2 v3 (.bool v4) v5 v6 (.bool v7) v8 R S) (G:=fun i S=>OI ms (.int i) v2 v3 (.bool v4) v5 v6 (.bool v7) v8 R S) (sm5 v2 v3 v5 v8 v4 v7 b c d e hR a) S (fun i=>oL ms i v2 v3 v4 v5 v6 v7 v8 R S) (len ms-i) i (by omega) f g
theorem sm3 (b:GP ms (len ms) M dp) (c:len ms≤9) (d:0<len v6) (e:BT B) (hR:RS ms B (len ms) R) (a:∀j,j<len ms→Kn B (nmI ms j)→∀r∈rfs ms j,Kn B r):SR ms B (fun i S=>N7 ms (.int i) v2 v3 (.bool v4) v5 v6 (.bool v7) v8 R S) 2:=fun i S f h g=>
 CA (v2:=v2) (v3:=v3) (v4:=v4) (v5:=v5) (v7:=v7) (v8:=v8) b c d e hR a (F:=fun i S=>N7 ms (.int i) v2 v3 (.bool v4) v5 v6 (.bool v7) v8 R S) (G:=fun i S=>OG ms (.int i) v2 v3 (.bool v4) v5 v6 (.bool v7) v8 R S) (sm4 v2 v3 v5 v8 v4 v7 b c d e hR a) S (fun i=>wq ms i v2 v3 v4 v5 v6 v7 v8 R S) (len ms-i) i (by omega) f g
theorem sm2 (b:GP ms (len ms) M dp) (c:len ms≤9) (d:0<len v6) (e:BT B) (hR:RS ms B (len ms) R) (a:∀j,j<len ms→Kn B (nmI ms j)→∀r∈rfs ms j,Kn B r):SR ms B (fun i S=>Oz ms (.int i) v2 v3 (.bool v4) v5 v6 (.bool v7) v8 R S) 1:=fun i S f h g=>
 CA (v2:=v2) (v3:=v3) (v4:=v4) (v5:=v5) (v7:=v7) (v8:=v8) b c d e hR a (F:=fun i S=>Oz ms (.int i) v2 v3 (.bool v4) v5 v6 (.bool v7) v8 R S) (G:=fun i S=>N7 ms (.int i) v2 v3 (.bool v4) v5 v6 (.bool v7) v8 R S) (sm3 v2 v3 v5 v8 v4 v7 b c d e hR a) S (fun i=>xn ms i v2 v3 v4 v5 v6 v7 v8 R S) (len ms-i) i (by omega) f g
theorem kW (c:GP ms (len ms) M dp) (d:len ms≤9) (e:0<len v6) (f:BT B) (hR:RS ms B (len ms) R) (b:∀j,j<len ms→Kn B (nmI ms j)→∀r∈rfs ms j,Kn B r) {a st:D}:∃S,LO a ms st v2 v3 (.bool v4) v5 v6 (.bool v7) v8 R=.row [.int 1,S]∧SS ms B (len ms) S:=by
 rw [pH];exact CA (v2:=v2) (v3:=v3) (v4:=v4) (v5:=v5) (v7:=v7) (v8:=v8) c d e f hR b (F:=fun i S=>Wf ms (.int i) v2 v3 (.bool v4) v5 v6 (.bool v7) v8 R) (G:=fun i S=>Oz ms (.int i) v2 v3 (.bool v4) v5 v6 (.bool v7) v8 R S) (sm2 v2 v3 v5 v8 v4 v7 c d e f hR b) Af (fun i=>wU ms i v2 v3 v4 v5 v6 v7 v8 R) (len ms) 0 (by omega) (IqQ _) .zero
end
end
end
end
end Mc
set_option maxRecDepth 4000
namespace Mc
open Go Go.AE
section
variable [Ao]
theorem Tk {a b st k:D} (h:len b≤1000000):Gt a b st k (.int (len b:Int))=.row [.int 1,.int (ixN b (len b) k)]:=by
 rw [vZ];refine find (F:=fun j=>NU k (.int (len b:Int)) (.int (j:Nat)) a b st) (bad:=fun i=>D.strEq (nmI b i) k) (n:=len b) ?_ ?_
 ·intro j c;refine (?_:NU k (.int (len b:Int)) (.int ((j:Nat):Int)) a b st=_);rw [eX,ifT (by omega),ifF (by omega),ifT (by omega),AL (by omega)];rfl
 ·refine (?_:NU k (.int (len b:Int)) (.int ((len b:Nat):Int)) a b st=_);rw [eX,ifF (by omega)]
def La (A:List D) (r:D):Bool:=A.any fun a=>D.strEq a r
def ddA:List D→List D→List D
 |A,[]=>A
 |A,r::L=>cond (La A r) (ddA A L) (ddA (A++[r]) L)
theorem P3:∀(L:List D) (A K:List D),ddA A (L++K)=ddA (ddA A L) K
 |[],A,K=>rfl
 |r::L,A,K=>by
  show cond _ _ _=ddA (cond _ _ _) K;cases La A r
  ·exact P3 L _ K
  ·exact P3 L A K
theorem IG:∀(L A:List D),(ddA A L).length≤A.length+L.length
 |[],A=>IqQ _
 |r::L,A=>by
  show (cond _ _ _:List D).length≤_;cases La A r
  ·have:=IG L (A++[r]);rw [la] at this;simp only [lp,kp,Aeb] at *;omega
  ·have:=IG L A;simp only [qs,kp] at *;omega
theorem JD:∀(L A:List D) {d:D},d∈ddA A L→d∈A∨d∈L
 |[],A,d,h=>.inl h
 |r::L,A,d,h=>by
  have h':d∈(cond (La A r) (ddA A L) (ddA (A++[r]) L)):=h;cases a:La A r with
  |false=>
   rw [a] at h';rcases JD L _ h' with g|g
   ·rcases ue.1 g with q|q
    ·exact .inl q
    ·rw [vv.1 q];exact .inr Aef
   ·exact .inr (Ad8 _ g)
  |true=>
   rw [a] at h';exact (JD L _ h').imp id (Ad8 _)
theorem Ms {p:D→Bool} (c:∀a b,D.strEq a b=true→p a=p b):∀(L A:List D),(ddA A L).find? p=(A++L).find? p
 |[],A=>by rw [Aek];rfl
 |r::L,A=>by
  show (cond _ _ _:List D).find? p=_;cases d:La A r with
  |false=>
   rw [lp,Ms c L (A++[r]),Aeo];rfl
  |true=>
   rw [qs,Ms c L A,List.find?_append,List.find?_append];cases e:A.find? p with
   |some x=>rfl
   |none=>
    obtain ⟨a,f,g⟩:=List.any_eq_true.1 d
    have i:p a=false:=by
     have:=List.find?_eq_none.1 e a f;cases h:p a
     ·rfl
     ·exact absurd h this
    have j:p r=false:=by rw [←c a r g];exact i
    simp [List.find?_cons,j]
theorem J5:∀(L A:List D),(∀r∈A,r∈ddA A L)∧∀r∈L,∃d∈ddA A L,D.strEq d r=true
 |[],A=>⟨fun r h=>h,fun r h=>by cases h⟩
 |r::L,A=>by
  show (∀x∈A,x∈(cond (La A r) (ddA A L) (ddA (A++[r]) L)))∧∀x∈r::L,∃d∈(cond (La A r) (ddA A L) (ddA (A++[r]) L)),_
  cases g:La A r with
  |false=>
   obtain ⟨b,f⟩:=J5 L (A++[r]);rw [lp];refine ⟨fun x c=>b x (List.mem_append_left _ c),fun x c=>?_⟩
   rcases gk.1 c with e|e
   ·subst e;exact ⟨x,b x (Aem _ (vv.2 rfl)),Cj⟩
   ·exact f x e
  |true=>
   obtain ⟨b,f⟩:=J5 L A;rw [qs];refine ⟨b,fun x c=>?_⟩
   rcases gk.1 c with e|e
   ·subst e;obtain ⟨a,i,j⟩:=List.any_eq_true.1 g;exact ⟨a,b a i,j⟩
   ·exact f x e
section
variable {v v0 v3 nm:D} {v1 v4:Bool} {i:Int}
theorem Qp {A:List D} {j:Nat} (a:v0.rows=nms A) (d:A.length≤100000) (e:j<len v3):∀n k (b:Bool),k+n=A.length→OD v0 (.bool v1) (.int i) v3 (.bool v4) (.int (j:Nat)) (.bool b) (.int (k:Nat)) nm v =
  cond (b||La (A.drop k) (cl v3 j 0)) (HM v0 (.bool v1) (.int i) v3 (.bool v4) (.int (wrap .i64 ((j:Nat)+1))) nm v) (HM (ad v0 (.row [(cl v3 j 0)])) (.bool false) (.int i) v3 (.bool v4) (.int (wrap .i64 ((j:Nat)+1))) nm v)
 |0,k,b,h=>by
  have g:len v0=A.length:=by unfold len;rw [a];simp [nms]
  have c:A.drop k=[]:=List.drop_eq_nil_of_le (by omega)
  rw [eH,ifF (by omega),c]
  cases b with
  |true=>rfl
  |false=>
   rw [lp,ifF (by omega),ifT (by omega),ifT (by omega)];rfl
 |n+1,k,b,h=>by
  have g:len v0=A.length:=by unfold len;rw [a];simp [nms]
  have f:k<A.length:=by omega
  have l:cl v0 k 0=A[k]:=E6 a f;have c:A.drop k=A[k]::A.drop (k+1):=Ael f;rw [eH,ifT (by omega),AL (by omega),Qp a d e n (k+1) true (by omega),Qp a d e n (k+1) _ (by omega),l,c]
  cases b with
  |true=>rfl
  |false=>
   rw [lp,ifF (by omega),ifF (by omega),ifT (by omega)];rfl
theorem Qx {W:List D} (b:v3.rows=nms W) (g:W.length≤1000):∀n j (A:List D) (v0:D) (v1:Bool),j+n=W.length→v0.rows=nms A→A.length+n≤10000→∃a c,HM v0 (.bool v1) (.int i) v3 (.bool v4) (.int (j:Nat)) nm v=Rx a (.bool c) (.int (wrap .i64 (i+1))) nm v∧a.rows=nms (ddA A (W.drop j))
 |0,j,A,v0,v1,h,d,l=>by
  have m:len v3=W.length:=by unfold len;rw [b];simp [nms]
  have e:W.drop j=[]:=List.drop_eq_nil_of_le (by omega)
  rw [eB,ifF (by omega),e]
  exact ⟨v0,v1,rfl,d⟩
 |n+1,j,A,v0,v1,h,d,l=>by
  have m:len v3=W.length:=by unfold len;rw [b];simp [nms]
  have k:j<W.length:=by omega
  have o:cl v3 j 0=W[j]:=E6 b k;have e:W.drop j=W[j]::W.drop (j+1):=Ael k;have p:=Qp (v3:=v3) (v1:=v1) (v4:=v4) (i:=i) (nm:=nm) (v:=v) (j:=j) d (by omega) (by omega) A.length 0 false (by omega)
  have f:OD v0 (.bool v1) (.int i) v3 (.bool v4) (.int (j:Nat)) (.bool false) (.int 0) nm v=_:=p;rw [eB,ifT (by omega),f,o,e,AL (by omega),List.drop_zero,Bool.false_or]
  refine (?_:∃(a:D) (c:Bool),_∧a.rows=nms (cond (La A W[j]) (ddA A (W.drop (j+1))) (ddA (A++[W[j]]) (W.drop (j+1)))))
  cases La A W[j] with
  |true=>rw [qs,qs];exact Qx b g n (j+1) A v0 v1 (by omega) d (by omega)
  |false=>
   rw [lp,lp];exact Qx b g n (j+1) (A++[W[j]]) _ false (by omega) (IV d) (by rw [la];simp only [kp,Aeb];omega)
end
theorem TP {v nm:D} (a:FT v):∃L b,A9 nm v=.row [.int 1,L,.bool b]∧L.rows=nms (ddA [] (RF v (len v))):=by
 have K:∀n i (c:D) (d:Bool),i+n=len v→c.rows=nms (ddA [] (RF v i))→∃L b,Rx c (.bool d) (.int (i:Nat)) nm v=.row [.int 1,L,.bool b]∧L.rows=nms (ddA [] (RF v (len v))):=by
  intro n
  induction n with
  |zero=>
   intro i c d h p;have:i=len v:=h;subst this;rw [fV,ifF (by omega)]
   exact ⟨c,d,rfl,p⟩
  |succ n ih=>
   intro i c d h p;have few:=a.few;have hi:i<len v:=by omega
   have M:=a.len12 i hi;have N:=Gb a i (by omega)
   have r:=IG (RF v i) []
   have O:(RFi v i).length≤10:=by
    unfold RFi
    repeat' split
    all_goals simp
    all_goals omega
   obtain ⟨e,k⟩:=a.i1 i hi;obtain ⟨P,B⟩:=a.i2 i hi;obtain ⟨Q,C⟩:=a.b3 i hi;obtain ⟨R,E⟩:=a.b4 i hi;obtain ⟨S,F⟩:=a.i5 i hi;obtain ⟨T,G⟩:=a.i6 i hi;obtain ⟨U,H⟩:=a.i7 i hi;obtain ⟨s,f⟩:=a.i13 i hi;obtain ⟨t,g⟩:=a.i14 i hi;have V:kd v i=e:=by unfold kd;rw [k];rfl
   have u:(cl v i 1).toInt=e:=by rw [k];rfl
   have I:∀(v3:D) (v4:Bool),v3.rows=nms (RFi v i)→∃L b,HM c (.bool d) (.int (i:Nat)) v3 (.bool v4) (.int 0) nm v=.row [.int 1,L,.bool b]∧L.rows=nms (ddA [] (RF v (len v))):=fun v3 v4 w=>by
    obtain ⟨x,y,X,Y⟩:=Qx (v4:=v4) (i:=(i:Nat)) (nm:=nm) (v:=v) (v3:=v3) (W:=RFi v i) w (by omega) (RFi v i).length 0 (ddA [] (RF v i)) c d (by omega) p (by simp only [Aeb] at r;omega)
    have z:HM c (.bool d) (.int (i:Nat)) v3 (.bool v4) (.int 0) nm v=_:=X;rw [z,AL (by omega)]
    refine ih (i+1) x y (by omega) ?_
    rw [Y,List.drop_zero,RF,P3]
   have t2:∀(v3:D) (v4:Bool),e≠9→v3.rows=nms (RFi v i)→∃L b,Kx c (.bool d) (.int (i:Nat)) v3 (.bool v4) (.int 0) nm v (cl v i 0) (cl v i 1) (cl v i 2) (cl v i 3) (cl v i 4) (cl v i 5) (cl v i 6) (cl v i 7) (cl v i 8) (cl v i 9) (cl v i 10) (cl v i 11) (cl v i 12) (cl v i 13) (cl v i 14)=.row [.int 1,L,.bool b]∧L.rows=nms (ddA [] (RF v (len v))):=fun v3 v4 l w=>by
    rw [k,B,C,E,F,G,H,f,g,XK,ifF l];exact I v3 v4 w
   have t9:e=9→∀m j (v3:D) (v4:Bool),j+m=len (cl v i 12)→v3.rows=nms ((List.range j).map fun (q:Nat)=>cl (cl v i 12) q 2)→∃L b,Kx c (.bool d) (.int (i:Nat)) v3 (.bool v4) (.int (j:Nat)) nm v (cl v i 0) (.int e) (.int P) (.bool Q) (.bool R) (.int S) (.int T) (.int U) (cl v i 8) (cl v i 9) (cl v i 10) (cl v i 11) (cl v i 12) (.int s) (.int t)=.row [.int 1,L,.bool b]∧L.rows=nms (ddA [] (RF v (len v))):=by
    intro l m
    induction m with
    |zero=>
     intro j v3 v4 J o;have:j=len (cl v i 12):=J;subst this;rw [XK,ifT l,ifF (by omega)]
     refine I v3 v4 ?_;rw [RFi,if_neg (by omega),if_pos (by omega)];exact o
    |succ m A=>
     intro j v3 v4 J o;have Z:len v3=j:=by unfold len;rw [o];simp [nms]
     rw [XK,ifT l,ifT (by omega),ifF (by omega),ifT (by omega),AL (by omega)]
     refine A (j+1) _ false (by omega) ?_
     rw [IV o,List.range_succ,List.map_append];rfl
   have st:kd v i=7∨kd v i=8∨kd v i=12→(ad Af (.row [(cl v i 9)])).rows=nms (RFi v i):=fun hh=>by
    rw [RFi,if_pos hh];rfl
   rw [fV,ifT (by omega),ifF (by omega),u]
   by_cases k7:e=7
   ·rw [ifT k7];exact t2 _ false (by omega) (st (by omega))
   rw [ifF k7];by_cases k8:e=8
   ·rw [ifT k8];exact t2 _ false (by omega) (st (by omega))
   rw [ifF k8];by_cases k12:e=12
   ·rw [ifT k12];exact t2 _ false (by omega) (st (by omega))
   rw [ifF k12];by_cases k9:e=9
   ·rw [k,B,C,E,F,G,H,f,g];exact t9 k9 (len (cl v i 12)) 0 BK true (by omega) rfl
   ·exact t2 BK true k9 (by rw [RFi,if_neg (by omega),if_neg (by omega)];rfl)
 rw [pb];exact K (len v) 0 BK true (by omega) rfl
section
variable {ms M a st:D} {dp:Nat→Int}
def dds (ms:D) (i:Nat):List D:=ddA [] (rfs ms i)
theorem gD (g:GP ms (len ms) M dp) {i:Nat} (hi:i<len ms) {m:Int} (h:JL (rv ms) (dds ms i) m):JL (rv ms) (rfs ms i) m:=by
 obtain ⟨c1,c2⟩:=J5 (rfs ms i) [];refine ⟨h.nn,fun r b=>?_,h.at'.imp id fun ⟨r,b,e⟩=>?_⟩
 ·obtain ⟨d,c,f⟩:=c2 r b;rw [←Jw f];exact h.le d c
 ·rcases JD _ _ b with q|q
  ·cases q
  ·exact ⟨r,q,e⟩
def LR (ms:D) (P:D→D) (n:Nat):Prop:=∀i:Nat,i≤n→i<len ms→P (.int (i:Nat))=.row [.int 1,.int (RG ms i)]
theorem Adg (d:GP ms (len ms) M dp):LR ms (fun x=>QI a ms st x) 0:=by
 intro i k hi;have j:i=0:=by omega
 subst j;show QI a ms st (.int (0:Nat))=_;obtain ⟨L,b,f,c⟩:=TP (nm:=nmI ms 0) (d.fo 0 hi).ft;have g:RF (fsI ms 0) (len (fsI ms 0))=[]:=Fj d hi;have l:len L=0:=by show L.rows.length=0;rw [c,g];rfl
 have e:A9 (cl ms (0:Nat) 0) (cl ms (0:Nat) 1)=.row [.int 1,L,.bool b]:=f;have h:Fu (cl ms (0:Nat) 0) (cl ms (0:Nat) 1)=.row [.int 1,.int (rg ms 0)]:=Pe (d.fo 0 hi).ft;have m:=GG d hi;rw [qI,ifF (by omega),ifT (by omega),e,AK]
 show Zw (.int (0:Nat)) L (.bool b) a ms st=_;rw [Abn,ifF (by omega),ifF (by omega),ifT (by omega),h,AK,Ob d hi,Fj d hi]
 show D.row [.int 1,.int (wrap .i64 (rg ms 0+0))]=D.row [.int 1,.int (rg ms 0+0)];rw [AM (by omega) (by omega)]
theorem DS (g:GP ms (len ms) M dp) (Q:len ms≤9) {P F:D→D} {F1:D→D→D→D→D→D} {n:Nat} (R:LR ms P n)
  (y:∀d:Int,F (.int d)=cond (d<0) (.row []) (cond (d<len ms) (cond ((sl (A9 (cl ms d 0) (cl ms d 1)) 0).toInt=1) (F1 (.int d) (sl (A9 (cl ms d 0) (cl ms d 1)) 1) (sl (A9 (cl ms d 0) (cl ms d 1)) 2) (.int 0) (.int 0)) (.row [])) (.row [])))
  (G:∀(H:Int) (I:D) (J:Bool) (d K:Int),F1 (.int H) I (.bool J) (.int d) (.int K)=LT a ms st P F1 H I J d K):LR ms F (n+1):=by
 intro i S hi;obtain ⟨L,b,z,o⟩:=TP (nm:=nmI ms i) (g.fo i hi).ft;have v:A9 (cl ms i 0) (cl ms i 1)=.row [.int 1,L,.bool b]:=z;have A:Fu (cl ms i 0) (cl ms i 1)=.row [.int 1,.int (rg ms i)]:=Pe (g.fo i hi).ft;have T:=GG g hi;have c:L.rows=nms (dds ms i):=o;have N:len L=(dds ms i).length:=by show L.rows.length=_;rw [c];simp [nms]
 have U:=Gb (g.fo i hi).ft _ (IqQ _);have few:=(g.fo i hi).ft.few;have B:=IG (rfs ms i) [];have V:(dds ms i).length≤160:=by unfold dds;unfold rfs at *;simp only [Aeb] at B;omega
 have C:∀j (f:j<(dds ms i).length),cl L j 0=(dds ms i)[j]:=fun j f=>E6 c f
 have W:∀k q (m:Int),q+k=len L→0≤m→(∀j (f:j<(dds ms i).length),j<q→rv ms (dds ms i)[j]≤m)→(m=0∨∃r∈dds ms i,rv ms r=m)→F1 (.int (i:Nat)) L (.bool b) (.int m) (.int (q:Nat))=.row [.int 1,.int (RG ms i)]:=by
  intro k
  induction k with
  |zero=>
   intro q m h y p s
   have w:JL (rv ms) (dds ms i) m:=⟨y,fun r E=>by
    obtain ⟨j,f,rfl⟩:=ud E;exact p j f (by omega),s⟩
   obtain ⟨m0,m1,m2⟩:=Pc g hi Q (gD g hi w);rw [G];unfold LT;rw [ifF (by omega),ifF (by omega),ifT (by omega),A,AK]
   show D.row [.int 1,.int (wrap .i64 (rg ms i+m))]=_;rw [AM (by omega) (by omega),m2]
  |succ k ih=>
   intro q m h y p s;have O:q<(dds ms i).length:=by omega
   have l:(dds ms i)[q]∈dds ms i:=Aei O;have t:(dds ms i)[q]∈rfs ms i:=(JD _ _ l).elim (fun q=>by cases q) id
   obtain ⟨f,X,_,_⟩:=g.ref' hi t
   have nx:∀u,m≤u→rv ms (dds ms i)[q]≤u→(u=m∨rv ms (dds ms i)[q]=u)→F1 (.int (i:Nat)) L (.bool b) (.int u) (.int ((q+1:Nat):Int))=.row [.int 1,.int (RG ms i)]:=fun u w E Y=>by
    refine ih (q+1) u (by omega) (by omega) (fun j f Z=>?_) ?_
    ·rcases gg j q with x|x
     ·have:=p j f x;omega
     ·have:j=q:=by omega
      subst this;exact E
    ·rcases Y with e|e
     ·subst e;exact s
     ·exact .inr ⟨_,l,e⟩
   have hp:P (sl (.row [.int 1,.int (ixI ms (dds ms i)[q]:Nat)]) 1)=.row [.int 1,.int (rv ms (dds ms i)[q])]:=R _ (by omega) (by omega)
   rw [G];unfold LT;rw [ifT (by omega),ifF (by omega),Tk (by omega),C q O,X,AK,hp,AK,AL (by omega)]
   refine (?_:cond (decide (m<rv ms (dds ms i)[q])) _ _=_);by_cases w:m<rv ms (dds ms i)[q]
   ·rw [ifT w];exact nx _ (by omega) (by omega) (.inr rfl)
   ·rw [ifF w];exact nx _ (by omega) (by omega) (.inl rfl)
 rw [y,ifF (by omega),ifT (by omega),v,AK]
 exact W (len L) 0 0 (by omega) (by omega) (fun j f h=>absurd h (hH _)) (.inl rfl)
theorem Acg (f:GP ms (len ms) M dp) (g:len ms≤9):LR ms (fun x=>Vp a ms st x) 1:=
 DS (a:=a) (st:=st) f g (P:=fun x=>QI a ms st x) (F1:=fun x c d b e=>We x c d b e a ms st) (Adg f) (fun b=>Abw a ms st b) (fun h c d b e=>wT h c d b e a ms st)
theorem Ad5 (f:GP ms (len ms) M dp) (g:len ms≤9):LR ms (fun x=>UO a ms st x) 2:=
 DS (a:=a) (st:=st) f g (P:=fun x=>Vp a ms st x) (F1:=fun x c d b e=>V7 x c d b e a ms st) (Acg f g) (fun b=>nw a ms st b) (fun h c d b e=>pZ h c d b e a ms st)
theorem Ab6 (f:GP ms (len ms) M dp) (g:len ms≤9):LR ms (fun x=>V8 a ms st x) 3:=
 DS (a:=a) (st:=st) f g (P:=fun x=>UO a ms st x) (F1:=fun x c d b e=>UN x c d b e a ms st) (Ad5 f g) (fun b=>sC a ms st b) (fun h c d b e=>sr h c d b e a ms st)
theorem Ab1 (f:GP ms (len ms) M dp) (g:len ms≤9):LR ms (fun x=>UR a ms st x) 4:=
 DS (a:=a) (st:=st) f g (P:=fun x=>V8 a ms st x) (F1:=fun x c d b e=>Vq x c d b e a ms st) (Ab6 f g) (fun b=>Abu a ms st b) (fun h c d b e=>tz h c d b e a ms st)
theorem Adu (f:GP ms (len ms) M dp) (g:len ms≤9):LR ms (fun x=>U9 a ms st x) 5:=
 DS (a:=a) (st:=st) f g (P:=fun x=>UR a ms st x) (F1:=fun x c d b e=>VM x c d b e a ms st) (Ab1 f g) (fun b=>vB a ms st b) (fun h c d b e=>vn h c d b e a ms st)
theorem Ach (f:GP ms (len ms) M dp) (g:len ms≤9):LR ms (fun x=>VD a ms st x) 6:=
 DS (a:=a) (st:=st) f g (P:=fun x=>U9 a ms st x) (F1:=fun x c d b e=>U2 x c d b e a ms st) (Adu f g) (fun b=>vS a ms st b) (fun h c d b e=>oV h c d b e a ms st)
theorem Adj (f:GP ms (len ms) M dp) (g:len ms≤9):LR ms (fun x=>U8 a ms st x) 7:=
 DS (a:=a) (st:=st) f g (P:=fun x=>VD a ms st x) (F1:=fun x c d b e=>Vw x c d b e a ms st) (Ach f g) (fun b=>mZ a ms st b) (fun h c d b e=>zt h c d b e a ms st)
theorem Adz (f:GP ms (len ms) M dp) (g:len ms≤9):LR ms (fun x=>Iz a ms st x) 8:=
 DS (a:=a) (st:=st) f g (P:=fun x=>U8 a ms st x) (F1:=fun x c d b e=>VQ x c d b e a ms st) (Adj f g) (fun b=>qV a ms st b) (fun h c d b e=>xo h c d b e a ms st)
theorem TB (b:GP ms (len ms) M dp) (c:len ms≤9) {i:Nat} (hi:i<len ms):Iz a ms st (.int (i:Nat))=.row [.int 1,.int (RG ms i)]:=Adz b c i (by omega) hi
end
end
end Mc
set_option maxRecDepth 4000
namespace Mc
open Go Go.AE
section
variable [Ao]
inductive CH (ms:D):Nat→List D→Prop
 |stop {i:Nat}:RG ms i=rg ms i→CH ms i []
 |next {i:Nat} {r:D} {l:List D}:RG ms i≠rg ms i→(rfs ms i).find? (fun r=>decide (rv ms r=RG ms i-rg ms i))=some r→CH ms (ixI ms r) l→CH ms i (r::l)
def adL (v:D) (l:List D):D:=l.foldl (fun a r=>ad a (.row [r])) v
theorem RE:∀(l L:List D) (v:D),v.rows=nms L→(adL v l).rows=nms (L++l)
 |[],L,v,h=>by rw [Aek];exact h
 |r::l,L,v,h=>by
  show (adL (ad v (.row [r])) l).rows=_;rw [RE l (L++[r]) _ (IV h),Aeo];rfl
section
variable {ms M a st:D} {dp:Nat→Int}
theorem PK (b:GP ms (len ms) M dp) {i:Nat} (hi:i<len ms):JL (rv ms) (rfs ms i) (RG ms i-rg ms i):=by
 have h:=P7 (f:=rv ms) (rfs ms i);rw [Ob b hi];have e:rg ms i+mxL (rv ms) (rfs ms i)-rg ms i=mxL (rv ms) (rfs ms i):=by omega
 rw [e];exact h
theorem CH.ex (t:GP ms (len ms) M dp):∀n i,i≤n→i<len ms→∃l,CH ms i l:=by
 intro n
 induction n with
 |zero=>
  intro i J hi;have i0:i=0:=by omega
  subst i0;refine ⟨[],.stop ?_⟩;rw [Ob t hi,Fj t hi];show rg ms 0+0=_;omega
 |succ n ih=>
  intro i J hi;by_cases h:RG ms i=rg ms i
  ·exact ⟨[],.stop h⟩
  ·have hm:=PK t hi;rcases hm.at' with e|⟨r,hr,e⟩
   ·exact absurd e (by omega)
   ·cases I:(rfs ms i).find? (fun r=>decide (rv ms r=RG ms i-rg ms i)) with
    |none=>exact absurd (List.find?_eq_none.1 I r hr) (by simp [e])
    |some x=>
     have hx:=List.mem_of_find?_eq_some I;obtain ⟨hj,_⟩:=t.ref' hi hx;obtain ⟨l,hl⟩:=ih (ixI ms x) (by omega) (by omega)
     exact ⟨x::l,.next h I hl⟩
theorem gY (f:GP ms (len ms) M dp) (t:len ms≤9) {i:Nat} {l:List D} (h:CH ms i l):∀v:D,i<len ms→len v+i≤1000→Sv (.int (i:Nat)) v a ms st=.row [.int 1,adL v l]:=by
 induction h with
 |@stop i h=>
  intro v hi I;have m:Fu (cl ms i 0) (cl ms i 1)=.row [.int 1,.int (rg ms i)]:=Pe (f.fo i hi).ft;rw [eT,TB f t hi,AK,ifF (by omega),ifT (by omega),m,AK]
  refine (?_:cond (decide (wrap .i64 (RG ms i-rg ms i)=0)) _ _=_);rw [h,show rg ms i-rg ms i=0 by omega,ifT (by decide)];rfl
 |@next i r l h J T ih=>
  intro v hi I;have m:Fu (cl ms i 0) (cl ms i 1)=.row [.int 1,.int (rg ms i)]:=Pe (f.fo i hi).ft;obtain ⟨L,b,w,n⟩:=TP (nm:=nmI ms i) (f.fo i hi).ft;have p:A9 (cl ms i 0) (cl ms i 1)=.row [.int 1,L,.bool b]:=w;have z:=PK f hi;have m0:=z.nn;obtain ⟨_,m1,_⟩:=Pc f hi t z;have d:L.rows=nms (dds ms i):=n;have G:len L=(dds ms i).length:=by show L.rows.length=_;rw [d];simp [nms]
  have K:=Gb (f.fo i hi).ft _ (IqQ _);have few:=(f.fo i hi).ft.few;have A:=IG (rfs ms i) [];have N:(dds ms i).length≤160:=by unfold dds;unfold rfs at *;simp only [Aeb] at A;omega
  have B:∀j (u:j<(dds ms i).length),cl L j 0=(dds ms i)[j]:=fun j u=>E6 d u
  have C:(dds ms i).find? (fun r=>decide (rv ms r=RG ms i-rg ms i))=some r:=by
   unfold dds;rw [Ms (fun x y O=>by rw [Jw O]),List.nil_append];exact J
  have P:∀k q,q+k=(dds ms i).length→((dds ms i).drop q).find? (fun r=>decide (rv ms r=RG ms i-rg ms i))=some r→QD v (.bool false) (.int (RG ms i-rg ms i)) L (.bool b) (.int (q:Nat)) a ms st=.row [.int 1,adL v (r::l)]:=by
   intro k
   induction k with
   |zero=>
    intro q Q c;rw [List.drop_eq_nil_of_le (by omega)] at c;cases c
   |succ k E=>
    intro q Q c;have o:q<(dds ms i).length:=by omega
    have s:(dds ms i)[q]∈dds ms i:=Aei o;have g:(dds ms i)[q]∈rfs ms i:=(JD _ _ s).elim (fun q=>by cases q) id
    obtain ⟨u,R,_,_⟩:=f.ref' hi g;have F:Iz a ms st (sl (.row [.int 1,.int (ixI ms (dds ms i)[q]:Nat)]) 1)=.row [.int 1,.int (rv ms (dds ms i)[q])]:=TB f t (by omega)
    rw [mg,ifF (by omega),ifT (by omega),Tk (by omega),B q o,R,AK,F,AK,AL (by omega)]
    refine (?_:cond (decide (rv ms (dds ms i)[q]<RG ms i-rg ms i)) _ _=_);rw [Ael o,List.find?_cons] at c;have S:=z.le _ g;by_cases H:rv ms (dds ms i)[q]=RG ms i-rg ms i
    ·rw [oj H] at c;have e:(dds ms i)[q]=r:=by simpa using c
     rw [ifF (by omega),ifT (by omega),e]
     rw [e] at u;refine (?_:Sv (.int (ixI ms r:Nat)) (ad v (.row [r])) a ms st=_);rw [ih _ (by omega) (by rw [Dp];omega)];rfl
    ·rw [k0 H] at c;rw [ifT (by omega)]
     exact E (q+1) (by omega) c
  rw [eT,TB f t hi,AK,ifF (by omega),ifT (by omega),m,AK]
  refine (?_:cond (decide (wrap .i64 (RG ms i-rg ms i)=0)) _ (cond (decide ((sl (A9 (cl ms i 0) (cl ms i 1)) 0).toInt=1)) (QD v (.bool false) (.int (wrap .i64 (RG ms i-rg ms i))) _ _ _ a ms st) _)=_);rw [AM (by omega) (by omega),ifF (by omega),p,AK]
  exact P (dds ms i).length 0 (by omega) C
theorem lH (c:GP ms (len ms) M dp) (d:len ms≤9) {i:Nat} {l:List D} (h:CH ms i l) (b:ixN ms (len ms) st=(i:Nat)):NT a ms st=.row [.int 1,adL (ad Af (.row [st])) l]:=by
 obtain ⟨hi,_⟩:=Kg b;rw [Aai,Tk (by omega),b,AK]
 exact gY c d h _ hi (by show 1+i≤1000;omega)
theorem gv (u:GP ms (len ms) M dp) {S l x:D} {c:Int} {i:Nat} (hi:i<len ms) (b:l.rows=nms (rfs ms i)) (y:∀r∈rfs ms i,lk S r=some (.int (rv ms r))):Ex S x (.int c) l=match (rfs ms i).find? (fun r=>decide (rv ms r=c)) with|some r=>.row [.int 1,r]|none=>.row [.int 2]:=by
 have A:=Gb (u.fo i hi).ft _ (IqQ _);have few:=(u.fo i hi).ft.few;have v:len l=(rfs ms i).length:=by show l.rows.length=_;rw [b];simp [nms]
 have B:(rfs ms i).length≤160:=by unfold rfs;omega
 have f:∀j (e:j<(rfs ms i).length),cl l j 0=(rfs ms i)[j]:=fun j e=>E6 b e
 have C:∀k q,q+k=(rfs ms i).length→(∀j (e:j<(rfs ms i).length),j<q→rv ms (rfs ms i)[j]≠c)→Mk l (.int (q:Nat)) S x (.int c)=match ((rfs ms i).drop q).find? (fun r=>decide (rv ms r=c)) with|some r=>.row [.int 1,r]|none=>.row [.int 2]:=by
  intro k
  induction k with
  |zero=>
   intro q h g;rw [eF,ifF (by omega),List.drop_eq_nil_of_le (by omega)];rfl
  |succ k ih=>
   intro q h g;have s:q<(rfs ms i).length:=by omega
   have n:(rfs ms i)[q]∈rfs ms i:=Aei s;obtain ⟨z,E,t,_⟩:=PA (l:=l) (i:=q) (by omega) (by omega)
   have nx:rv ms (rfs ms i)[q]≠c→Mk l (.int ((q+1:Nat):Int)) S x (.int c)=match ((rfs ms i).drop (q+1)).find? (fun r=>decide (rv ms r=c)) with|some r=>.row [.int 1,r]|none=>.row [.int 2]:=fun d=>ih (q+1) (by omega) fun j e F=>by
    rcases gg j q with o|o
    ·exact g j e o
    ·have:j=q:=by omega
     subst this;exact d
   rw [eF,ifT (by omega),ifF (by omega),ifF (by omega),E,AL (by omega),AK,Ael s,List.find?_cons]
   refine (?_:cond (decide (z<0)) _ _=_);by_cases m:z<0
   ·obtain ⟨G,H⟩:=ET (y _ n);rw [ifT m,f q s,ifF G,H];refine (?_:cond (decide (rv ms (rfs ms i)[q]=c)) _ _=_);by_cases p:rv ms (rfs ms i)[q]=c
    ·rw [ifT p,oj p]
    ·rw [ifF p,k0 p];exact nx p
   ·obtain ⟨j,e,w⟩:=t m;rw [f q s,f j (by omega)] at w
    have d:rv ms (rfs ms i)[q]≠c:=by rw [Jw w];exact g j (by omega) e
    rw [ifF m,k0 d];exact nx d
 rw [yW];exact C (rfs ms i).length 0 (by omega) fun j e h=>absurd h (hH _)
def Cs (ms B acc:D) (G:D→D) (b:Nat):Prop:=∀(r:D) (i:Nat) (l:List D),ixN ms (len ms) r=(i:Nat)→i<b→Kn B r→CH ms i l→G r=.row [.int 1,adL acc (r::l),.bool false,.int 0]
section
variable {B R S v3 v4 v6 v7 a_:D} {v5 v8:Bool}
theorem D5 (e:GP ms (len ms) M dp) (K:len ms≤9) (L:0<len v7) (E:BT B) (hR:RS ms B (len ms) R) (v:∀j,j<len ms→Kn B (nmI ms j)→∀r∈rfs ms j,Kn B r) (u:SS ms B (len ms) S) {F:D→D} {G:D→D→D} {N acc:D} {b:Nat} (w:∀r,Cs ms B (ad acc (.row [r])) (G r) b)
  (O:∀r,F r=CT ms v3 v4 v5 v6 v7 v8 a_ R S N acc (G r) r):Cs ms B acc F (b+1):=by
 intro r i l m P Q y;obtain ⟨hi,d⟩:=Kg m;have f:Kn B (nmI ms i):=Q.congr E.sh (by rw [AR];exact d)
 have z:Bn v3 v4 (.bool v5) v6 v7 (.bool v8) a_ R r=.row [.int 1,.int (rg ms i),.int 0]:=by
  rw [Py L,←En hR.sh d,hR.yes i hi f]
 have A:lk S r=some (.int (RG ms i)):=by rw [←En u.sh d];exact u.yes i hi f
 obtain ⟨T,U⟩:=ET A;have H:=PK e hi;have m0:=H.nn;obtain ⟨_,m1,_⟩:=Pc e hi K H;obtain ⟨q,n,g⟩:=MJ (v0:=cl ms i 0) (e.fo i hi).ft;have k:AJ (cl ms i 0) (cl ms i 1)=.row [.int 1,q]:=n;have o:∀x∈rfs ms i,Kn B x:=v i hi f
 have p:=gv e (x:=AH 0 0) (c:=RG ms i-rg ms i) hi g (S:=S) fun x s=>by
  obtain ⟨V,Z,I,_⟩:=e.ref' hi s;have C:Kn B (nmI ms (ixI ms x)):=(o x s).congr E.sh (by rw [AR];exact I)
  rw [←En u.sh I];exact u.yes _ (by omega) C
 have t1:(sl (D.row [.int 1,.int (i:Int)]) 1).toInt=(i:Int):=rfl;have t2:(sl (D.row [.int 1,.int (rg ms i),.int 0]) 1).toInt=rg ms i:=rfl;have t3:(D.int (RG ms i)).toInt=RG ms i:=rfl;have t4:sl (D.row [.int 1,q]) 1=q:=rfl;rw [O];unfold CT;rw [Yy (e.nb i hi) d,lp,PH (by omega),m,AK,t1,ifF (by omega),z,AK,ifF T,U,t2,t3,AM (by omega) (by omega)]
 cases y with
 |stop h=>
  rw [ifT (by omega)];rfl
 |@next _ x W h J X=>
  rw [J] at p;have t:Ex S (AH 0 0) (.int (RG ms i-rg ms i)) q=.row [.int 1,x]:=p;have s:=List.mem_of_find?_eq_some J;obtain ⟨V,Y,_⟩:=e.ref' hi s;rw [ifF (by omega),ifT (by omega),k,AK,t4,t,AK]
  exact w r x (ixI ms x) W Y (by omega) (o x s) X
section
variable (v0 v2 v3 v4 v6 a_:D) (v5 v8:Bool)
theorem Acb:∀j b c d e f g i:D,Cs ms B (ad (ad (ad (ad (ad (ad (ad (ad (ad Af (.row [v2])) (.row [j])) (.row [b])) (.row [c])) (.row [d])) (.row [e])) (.row [f])) (.row [g])) (.row [i])) (fun x=>Ue v0 ms v2 v3 v4 (.bool v5) v6 v7 (.bool v8) j b c d e f g i x a_ R S) 0:=fun _ _ _ _ _ _ _ _ _ _ _ _ h=>absurd h (hH _)
theorem Ab3 (k:GP ms (len ms) M dp) (l:len ms≤9) (m:0<len v7) (n:BT B) (hR:RS ms B (len ms) R) (i:∀j,j<len ms→Kn B (nmI ms j)→∀r∈rfs ms j,Kn B r) (o:SS ms B (len ms) S):∀h b c d e f g:D,Cs ms B (ad (ad (ad (ad (ad (ad (ad (ad Af (.row [v2])) (.row [h])) (.row [b])) (.row [c])) (.row [d])) (.row [e])) (.row [f])) (.row [g])) (fun x=>MQ v0 ms v2 v3 v4 (.bool v5) v6 v7 (.bool v8) h b c d e f g x a_ R S) 1:=fun h b c d e f g=>
 D5 (v3:=v3) (v4:=v4) (v5:=v5) (v6:=v6) (v8:=v8) (a_:=a_) k l m n hR i o (F:=fun x=>MQ v0 ms v2 v3 v4 (.bool v5) v6 v7 (.bool v8) h b c d e f g x a_ R S) (G:=fun r x=>Ue v0 ms v2 v3 v4 (.bool v5) v6 v7 (.bool v8) h b c d e f g r x a_ R S) (acc:=(ad (ad (ad (ad (ad (ad (ad (ad Af (.row [v2])) (.row [h])) (.row [b])) (.row [c])) (.row [d])) (.row [e])) (.row [f])) (.row [g]))) (fun r=>Acb v0 v2 v3 v4 v6 a_ v5 v8 h b c d e f g r) (fun r=>j9 v0 ms v2 v3 v4 v5 v6 v7 v8 h b c d e f g r a_ R S)
theorem ch9 (i:GP ms (len ms) M dp) (k:len ms≤9) (l:0<len v7) (m:BT B) (hR:RS ms B (len ms) R) (h:∀j,j<len ms→Kn B (nmI ms j)→∀r∈rfs ms j,Kn B r) (n:SS ms B (len ms) S):∀g b c d e f:D,Cs ms B (ad (ad (ad (ad (ad (ad (ad Af (.row [v2])) (.row [g])) (.row [b])) (.row [c])) (.row [d])) (.row [e])) (.row [f])) (fun x=>Rg v0 ms v2 v3 v4 (.bool v5) v6 v7 (.bool v8) g b c d e f x a_ R S) 2:=fun g b c d e f=>
 D5 (v3:=v3) (v4:=v4) (v5:=v5) (v6:=v6) (v8:=v8) (a_:=a_) i k l m hR h n (F:=fun x=>Rg v0 ms v2 v3 v4 (.bool v5) v6 v7 (.bool v8) g b c d e f x a_ R S) (G:=fun r x=>MQ v0 ms v2 v3 v4 (.bool v5) v6 v7 (.bool v8) g b c d e f r x a_ R S) (acc:=(ad (ad (ad (ad (ad (ad (ad Af (.row [v2])) (.row [g])) (.row [b])) (.row [c])) (.row [d])) (.row [e])) (.row [f]))) (fun r=>Ab3 v0 v2 v3 v4 v6 a_ v5 v8 i k l m hR h n g b c d e f r) (fun r=>nP v0 ms v2 v3 v4 v5 v6 v7 v8 g b c d e f r a_ R S)
theorem ch8 (h:GP ms (len ms) M dp) (i:len ms≤9) (k:0<len v7) (l:BT B) (hR:RS ms B (len ms) R) (g:∀j,j<len ms→Kn B (nmI ms j)→∀r∈rfs ms j,Kn B r) (m:SS ms B (len ms) S):∀f b c d e:D,Cs ms B (ad (ad (ad (ad (ad (ad Af (.row [v2])) (.row [f])) (.row [b])) (.row [c])) (.row [d])) (.row [e])) (fun x=>QP v0 ms v2 v3 v4 (.bool v5) v6 v7 (.bool v8) f b c d e x a_ R S) 3:=fun f b c d e=>
 D5 (v3:=v3) (v4:=v4) (v5:=v5) (v6:=v6) (v8:=v8) (a_:=a_) h i k l hR g m (F:=fun x=>QP v0 ms v2 v3 v4 (.bool v5) v6 v7 (.bool v8) f b c d e x a_ R S) (G:=fun r x=>Rg v0 ms v2 v3 v4 (.bool v5) v6 v7 (.bool v8) f b c d e r x a_ R S) (acc:=(ad (ad (ad (ad (ad (ad Af (.row [v2])) (.row [f])) (.row [b])) (.row [c])) (.row [d])) (.row [e]))) (fun r=>ch9 v0 v2 v3 v4 v6 a_ v5 v8 h i k l hR g m f b c d e r) (fun r=>pJ v0 ms v2 v3 v4 v5 v6 v7 v8 f b c d e r a_ R S)
theorem ch7 (g:GP ms (len ms) M dp) (h:len ms≤9) (i:0<len v7) (k:BT B) (hR:RS ms B (len ms) R) (f:∀j,j<len ms→Kn B (nmI ms j)→∀r∈rfs ms j,Kn B r) (l:SS ms B (len ms) S):∀e b c d:D,Cs ms B (ad (ad (ad (ad (ad Af (.row [v2])) (.row [e])) (.row [b])) (.row [c])) (.row [d])) (fun x=>RI v0 ms v2 v3 v4 (.bool v5) v6 v7 (.bool v8) e b c d x a_ R S) 4:=fun e b c d=>
 D5 (v3:=v3) (v4:=v4) (v5:=v5) (v6:=v6) (v8:=v8) (a_:=a_) g h i k hR f l (F:=fun x=>RI v0 ms v2 v3 v4 (.bool v5) v6 v7 (.bool v8) e b c d x a_ R S) (G:=fun r x=>QP v0 ms v2 v3 v4 (.bool v5) v6 v7 (.bool v8) e b c d r x a_ R S) (acc:=(ad (ad (ad (ad (ad Af (.row [v2])) (.row [e])) (.row [b])) (.row [c])) (.row [d]))) (fun r=>ch8 v0 v2 v3 v4 v6 a_ v5 v8 g h i k hR f l e b c d r) (fun r=>nJ v0 ms v2 v3 v4 v5 v6 v7 v8 e b c d r a_ R S)
theorem ch6 (f:GP ms (len ms) M dp) (g:len ms≤9) (h:0<len v7) (i:BT B) (hR:RS ms B (len ms) R) (e:∀j,j<len ms→Kn B (nmI ms j)→∀r∈rfs ms j,Kn B r) (k:SS ms B (len ms) S):∀d b c:D,Cs ms B (ad (ad (ad (ad Af (.row [v2])) (.row [d])) (.row [b])) (.row [c])) (fun x=>Q1 v0 ms v2 v3 v4 (.bool v5) v6 v7 (.bool v8) d b c x a_ R S) 5:=fun d b c=>
 D5 (v3:=v3) (v4:=v4) (v5:=v5) (v6:=v6) (v8:=v8) (a_:=a_) f g h i hR e k (F:=fun x=>Q1 v0 ms v2 v3 v4 (.bool v5) v6 v7 (.bool v8) d b c x a_ R S) (G:=fun r x=>RI v0 ms v2 v3 v4 (.bool v5) v6 v7 (.bool v8) d b c r x a_ R S) (acc:=(ad (ad (ad (ad Af (.row [v2])) (.row [d])) (.row [b])) (.row [c]))) (fun r=>ch7 v0 v2 v3 v4 v6 a_ v5 v8 f g h i hR e k d b c r) (fun r=>wQ v0 ms v2 v3 v4 v5 v6 v7 v8 d b c r a_ R S)
theorem ch5 (e:GP ms (len ms) M dp) (f:len ms≤9) (g:0<len v7) (h:BT B) (hR:RS ms B (len ms) R) (d:∀j,j<len ms→Kn B (nmI ms j)→∀r∈rfs ms j,Kn B r) (i:SS ms B (len ms) S):∀c b:D,Cs ms B (ad (ad (ad Af (.row [v2])) (.row [c])) (.row [b])) (fun x=>Sz v0 ms v2 v3 v4 (.bool v5) v6 v7 (.bool v8) c b x a_ R S) 6:=fun c b=>
 D5 (v3:=v3) (v4:=v4) (v5:=v5) (v6:=v6) (v8:=v8) (a_:=a_) e f g h hR d i (F:=fun x=>Sz v0 ms v2 v3 v4 (.bool v5) v6 v7 (.bool v8) c b x a_ R S) (G:=fun r x=>Q1 v0 ms v2 v3 v4 (.bool v5) v6 v7 (.bool v8) c b r x a_ R S) (acc:=(ad (ad (ad Af (.row [v2])) (.row [c])) (.row [b]))) (fun r=>ch6 v0 v2 v3 v4 v6 a_ v5 v8 e f g h hR d i c b r) (fun r=>sw v0 ms v2 v3 v4 v5 v6 v7 v8 c b r a_ R S)
theorem ch4 (d:GP ms (len ms) M dp) (e:len ms≤9) (f:0<len v7) (g:BT B) (hR:RS ms B (len ms) R) (c:∀j,j<len ms→Kn B (nmI ms j)→∀r∈rfs ms j,Kn B r) (h:SS ms B (len ms) S):∀b:D,Cs ms B (ad (ad Af (.row [v2])) (.row [b])) (fun x=>Sg v0 ms v2 v3 v4 (.bool v5) v6 v7 (.bool v8) b x a_ R S) 7:=fun b=>
 D5 (v3:=v3) (v4:=v4) (v5:=v5) (v6:=v6) (v8:=v8) (a_:=a_) d e f g hR c h (F:=fun x=>Sg v0 ms v2 v3 v4 (.bool v5) v6 v7 (.bool v8) b x a_ R S) (G:=fun r x=>Sz v0 ms v2 v3 v4 (.bool v5) v6 v7 (.bool v8) b r x a_ R S) (acc:=(ad (ad Af (.row [v2])) (.row [b]))) (fun r=>ch5 v0 v2 v3 v4 v6 a_ v5 v8 d e f g hR c h b r) (fun r=>Abt v0 ms v2 v3 v4 v5 v6 v7 v8 b r a_ R S)
theorem ch3 (c:GP ms (len ms) M dp) (d:len ms≤9) (e:0<len v7) (f:BT B) (hR:RS ms B (len ms) R) (b:∀j,j<len ms→Kn B (nmI ms j)→∀r∈rfs ms j,Kn B r) (g:SS ms B (len ms) S):Cs ms B (ad Af (.row [v2])) (fun x=>Su v0 ms v2 v3 v4 (.bool v5) v6 v7 (.bool v8) x a_ R S) 8:=
 D5 (v3:=v3) (v4:=v4) (v5:=v5) (v6:=v6) (v8:=v8) (a_:=a_) c d e f hR b g (F:=fun x=>Su v0 ms v2 v3 v4 (.bool v5) v6 v7 (.bool v8) x a_ R S) (G:=fun r x=>Sg v0 ms v2 v3 v4 (.bool v5) v6 v7 (.bool v8) r x a_ R S) (acc:=(ad Af (.row [v2]))) (fun r=>ch4 v0 v2 v3 v4 v6 a_ v5 v8 c d e f hR b g  r) (fun r=>ry v0 ms v2 v3 v4 v5 v6 v7 v8  r a_ R S)
theorem ch2 (c:GP ms (len ms) M dp) (d:len ms≤9) (e:0<len v7) (f:BT B) (hR:RS ms B (len ms) R) (b:∀j,j<len ms→Kn B (nmI ms j)→∀r∈rfs ms j,Kn B r) (g:SS ms B (len ms) S):Cs ms B Af (fun x=>NE v0 ms x v3 v4 (.bool v5) v6 v7 (.bool v8) a_ R S) 9:=
 D5 (v3:=v3) (v4:=v4) (v5:=v5) (v6:=v6) (v8:=v8) (a_:=a_) c d e f hR b g (F:=fun x=>NE v0 ms x v3 v4 (.bool v5) v6 v7 (.bool v8) a_ R S) (G:=fun r x=>Su v0 ms r v3 v4 (.bool v5) v6 v7 (.bool v8) x a_ R S) (acc:=Af) (fun r=>ch3 v0 r v3 v4 v6 a_ v5 v8 c d e f hR b g) (fun r=>yP v0 ms r v3 v4 v5 v6 v7 v8 a_ R S)
end
end
theorem Yr {v:D} {b b':Bool} (h:len v≤1000000):Rj v (.bool b) v (.bool b')=.row [.int 1,.bool true]:=by
 have c:∀n i,i+n=len v→UY v (.bool b) v (.bool b') (.int (i:Nat))=.row [.int 1,.bool true]:=by
  intro n
  induction n with
  |zero=>
   intro i h;have:i=len v:=h;subst this;rw [fR,ifF (by omega)]
  |succ n ih=>
   intro i h;rw [fR,ifT (by omega),ifF (by omega),ifT (by omega),Cj,qs,AL (by omega)]
   exact ih (i+1) (by omega)
 rw [uk,ifT rfl];exact c (len v) 0 (by omega)
theorem CH.len (t:GP ms (len ms) M dp) {i:Nat} {l:List D} (h:CH ms i l):i<len ms→(l.length:Int)+1≤dp i:=by
 induction h with
 |@stop i h=>intro hi;have:=(t.low i hi).1;show (0:Int)+1≤_;omega
 |@next i r l h I J ih=>
  intro hi;obtain ⟨hj,_,_,hd⟩:=t.ref' hi (List.mem_of_find?_eq_some I);have:=ih (by omega)
  rw [kp];omega
end
end
end Mc
set_option maxRecDepth 4000
namespace Mc
open Go Go.AE
section
variable [Ao]
theorem Aby {v:D} (h:∀i,i<len v→EX v i) {n:Nat} (b:n≤len v):DN v n:=fun j k a c=>(h k (by omega)).new j a
theorem Qi {v nm:D} {i:Nat} (h:0≤ixM (AP v i) nm):∀n,i≤n→ixM (AP v n) nm=ixM (AP v i) nm∧(∀c,cl (AP v n) (ixM (AP v i) nm) c=cl (AP v i) (ixM (AP v i) nm) c)∧len (AP v i)≤len (AP v n)
 |0,d=>by
  have:i=0:=by omega
  subst this;exact ⟨rfl,fun _=>rfl,IqQ _⟩
 |n+1,d=>by
  by_cases e:i=n+1
  ·subst e;exact ⟨rfl,fun _=>rfl,IqQ _⟩
  ·obtain ⟨a,b,f⟩:=Qi h n (by omega)
   have j:ixM (AP v i) nm<len (AP v i):=by
    rcases FE (v:=v) (nm:=nm) i with ⟨g,_⟩|⟨_,_,_,_,_,g,_⟩
    ·exact absurd h (by unfold ixM;omega)
    ·exact g
   rw [AP];cases Fb (kd v n) with
   |false=>exact ⟨a,b,f⟩
   |true=>
    simp only [qs];refine ⟨?_,fun c=>?_,by rw [Dp];omega⟩
    ·show mIx [.str] _ _=_;rw [Mr (Ga (v:=v) n)];have:mIx [.str] (AP v n) (.row [nm])=ixM (AP v i) nm:=a;rw [this,if_pos h]
    ·rw [II h,if_neg (by omega)];exact b c
theorem SZ.up {v t:D} {base:Int} {i n:Nat} (h:SZ v t base i) (r:i≤n):SZ v t base n:=by
 refine ⟨h.lo,h.hi,h.few,h.terms,fun j l=>?_,fun j l=>?_,h.run⟩
 ·have:=h.known j l;rw [(Qi this n r).1];exact this
 ·have J:=h.known j l;obtain ⟨h1,I,_⟩:=Qi J n r;obtain ⟨r1,r2,r3⟩:=h.right j l;unfold RO loM hiM at *;rw [h1,I 1,I 2];exact ⟨r1,r2,r3⟩
theorem jd {v a:D} {i:Nat} {o m:Int} (s:FO v) (hi:i<len v) :
  IsI (Sw a v (.int m) (cl v i 0) (cl v i 1) (cl v i 2) (cl v i 3) (cl v i 4) (cl v i 5) (cl v i 6) (cl v i 7) (cl v i 8) (cl v i 9) (cl v i 10) (cl v i 11) (cl v i 12) (cl v i 13) (cl v i 14) (.int o)):=by
 have d:=s.ft;have few:=d.few;have w:=s.ex i hi;have W:=d.len8 i hi;obtain ⟨q,E⟩:=d.i1 i hi;obtain ⟨K,F⟩:=d.i2 i hi;obtain ⟨X,L⟩:=d.b3 i hi;obtain ⟨Y,N⟩:=d.b4 i hi;obtain ⟨O,G⟩:=d.i5 i hi;obtain ⟨P,H⟩:=d.i6 i hi;obtain ⟨h,I⟩:=d.i7 i hi;obtain ⟨e,k⟩:=d.i13 i hi;obtain ⟨Q,x⟩:=d.i14 i hi;unfold EX at w;rw [E,F,G,H,I,k] at w;have y:EX' v i q K O P h e:=w;obtain ⟨_,_,k12,R,z,k56,J,l⟩:=y;rw [E,F,L,N,G,H,I,k,x,oo];refine qc ⟨_,rfl⟩ (qc ⟨_,rfl⟩ (qc ?_ ?_))
 ·repeat' first|exact ⟨_,rfl⟩|apply qc
 by_cases k4:q=4
 ·rw [ifT k4];have g:=(z k4).up (n:=len v) (Nat.le_of_lt hi);have A:=Aby s.ex (IqQ (len v));have S:Bv v=.row [.int 1,AP v (len v)]:=eE (by omega) A
  have p:len (cl v i 8)≤1000000:=by omega
  have Z:=g.lo;have s2:=g.hi;have s3:=g.few;rw [S];refine (?_:IsI (cond (decide ((1:Int)=1)) (cond (decide (h < -1048576)) _ (cond (decide ((sl (BI (l2 (!decide (1048576<h)) (!decide (4<(len (cl v i 8):Int)))) (.bool false) (.bool false)) 0).toInt=1)) (cond (decide ((sl (BI (l2 (!decide (1048576<h)) (!decide (4<(len (cl v i 8):Int)))) (.bool false) (.bool false)) 1).toInt<0)) _ _) _)) _));rw [ifT rfl,ifF (by omega),Wk,AK,k0 (by omega:¬1048576<h),k0 (by omega:¬4<(len (cl v i 8):Int)),ifT (by show (-1:Int)<0;decide)]
  obtain ⟨r,mm,T,U⟩:=g.run;rw [T];refine (?_:IsI (cond (decide ((1:Int)=1)) (cond (decide (r<0)) (cond (cl v i 8).isNil _ _) _) _));rw [ifT rfl,ifT U];obtain ⟨z1,B⟩:=TF (t:=cl v i 8) (M:=AP v (len v)) (base:=h) (c:=true) p;have C:=gr (t:=cl v i 8) (M:=AP v (len v)) (base:=h) p g.known;rw [show sl (D.row [.int 1,AP v (len v)]) 1=AP v (len v) from rfl,B,C]
  cases hN:(cl v i 8).isNil with
  |true=>
   rw [qs];rcases O6 (t:=BK) (M:=AP v (len v)) (b:=true) (by decide) (fun j f=>absurd f (hH _)) (fun j f=>absurd f (hH _)) with ⟨u,u2⟩|⟨u,_⟩
   ·exact absurd (fun j f=>absurd f (hH _)) u2
   ·rw [u];exact ⟨_,rfl⟩
  |false=>
   rw [lp,ifT (by omega)]
   simp only [Bool.false_and];rcases O6 (t:=ct Af (cl v i 8)) (M:=AP v (len v)) (b:=false) (by rw [DY];omega) (fun j f=>by rw [FD];exact g.known j (by rw [←DY];exact f)) (fun j f=>by rw [FD];exact (g.terms j (by rw [←DY];exact f)).name) with ⟨u,u2⟩|⟨u,_⟩
   ·exact absurd (fun j f=>by rw [FD];exact g.right j (by rw [←DY];exact f)) u2
   ·rw [u];exact ⟨_,rfl⟩
 rw [ifF k4];refine qc ⟨_,rfl⟩ (qc ⟨_,rfl⟩ ?_);by_cases k10:q=10
 ·rw [ifT k10]
  repeat' first|exact ⟨_,rfl⟩|apply qc
 rw [ifF k10];by_cases k11:q=11
 ·obtain ⟨q1,q2⟩:=l k11;have V:wrap .i64 (e-1)=e-1:=AM (by omega) (by omega)
  rw [ifT k11,V];refine qc ⟨_,rfl⟩ (qc ⟨_,rfl⟩ ?_);by_cases c1:e=1
  ·rw [ifT (by omega)];exact ⟨_,rfl⟩
  rw [ifF (by omega)]
  by_cases c2:e=2
  ·rw [ifT (by omega)];exact ⟨_,rfl⟩
  rw [ifF (by omega),ifT (by omega)];exact ⟨_,rfl⟩
 ·rw [ifF k11];exact ⟨_,rfl⟩
section
variable {ms M N a st nm S:D} {dp:Nat→Int}
theorem i8 (b:HG a ms st=.row [.int 1,.int 0,.int 0,.int 0,.bool false]) {i k:Nat} (d:FO (cl ms i 1)) (hi:i<len ms) (e:k<len (cl ms i 1)):IsI (Rh nm (cl ms i 1) (.int (i:Nat)) a ms st (.int (k:Nat))):=by
 obtain ⟨z,f⟩:=jd (a:=nm) (m:=(i:Nat)) (o:=off (cl ms i 1) k) d e;have c:=ju (q:=k) (z:=0) d (Nat.le_of_lt e);rw [mE _ _ _ _ _ _ _ rfl rfl rfl,b,AK];refine (?_:IsI (cond false _ (cond _ _ (cond _ (cond _ _ (cond _ (cond (decide ((sl (DC (.int (k:Nat)) (.int 0) (cl ms i 1)) 0).toInt=1)) (cond _ (cond (decide ((sl (Sw nm (cl ms i 1) (.int (i:Nat)) (cl (cl ms i 1) k 0) (cl (cl ms i 1) k 1) (cl (cl ms i 1) k 2) (cl (cl ms i 1) k 3) (cl (cl ms i 1) k 4) (cl (cl ms i 1) k 5) (cl (cl ms i 1) k 6) (cl (cl ms i 1) k 7) (cl (cl ms i 1) k 8) (cl (cl ms i 1) k 9) (cl (cl ms i 1) k 10) (cl (cl ms i 1) k 11) (cl (cl ms i 1) k 12) (cl (cl ms i 1) k 13) (cl (cl ms i 1) k 14) (sl (DC (.int (k:Nat)) (.int 0) (cl ms i 1)) 1)) 0).toInt=1)) (cond _ _ _) _) _) _) _)) _))));rw [lp,ifF (by omega),ifT (by omega),ifF (by omega),ifT (by omega),c,AK,ifT (by omega),show sl (D.row [.int 1,.int (off (cl ms i 1) k)]) 1=.int (off (cl ms i 1) k) from rfl,f,AK]
 exact qc ⟨_,rfl⟩ ⟨_,rfl⟩
theorem jM (b:HG a ms st=.row [.int 1,.int 0,.int 0,.int 0,.bool false]) {i:Nat} (c:FO (cl ms i 1)) (hi:i<len ms):IsI (Rq (cl ms i 1) nm (cl ms i 1) (.int (i:Nat)) a ms st):=by
 have few:=c.ft.few
 have d:∀n k (m:Int),k+n=len (cl ms i 1)→IsI (St (.int m) (cl ms i 1) (.int (k:Nat)) nm (cl ms i 1) (.int (i:Nat)) a ms st):=by
  intro n
  induction n with
  |zero=>
   intro k m h;rw [eN,ifF (by omega)];exact ⟨_,rfl⟩
  |succ n ih=>
   intro k m h;obtain ⟨z,e⟩:=i8 (nm:=nm) b c hi (k:=k) (by omega)
   rw [eN,ifT (by omega),ifF (by omega),e,AK,AL (by omega)]
   exact qc (ih (k+1) z (by omega)) (ih (k+1) m (by omega))
 rw [ze];exact d (len (cl ms i 1)) 0 0 (by omega)
theorem iC (b:HG a ms st=.row [.int 1,.int 0,.int 0,.int 0,.bool false]) (f:len ms≤9) (c:∀i:Nat,i<len ms→FO (cl ms i 1)):IsI (Vo ms S a ms st):=by
 have d:∀n k (m:Int),k+n=len ms→IsI (Mx (.int m) ms (.int (k:Nat)) S a ms st):=by
  intro n
  induction n with
  |zero=>
   intro k m h;rw [eO,ifF (by omega)];exact ⟨_,rfl⟩
  |succ n ih=>
   intro k m h;obtain ⟨z,e⟩:=jM (nm:=cl ms k 0) b (c k (by omega)) (by omega)
   rw [eO,ifT (by omega),ifF (by omega),e,AK,AL (by omega)]
   refine qc (qc (ih (k+1) 0 (by omega)) (ih (k+1) m (by omega))) ?_
   exact qc (ih (k+1) z (by omega)) (ih (k+1) m (by omega))
 rw [oe];exact d (len ms) 0 0 (by omega)
end
end
end Mc
set_option maxRecDepth 4000
namespace Mc
open Go Go.AE
section
variable [Ao]
section
variable {ms M N a st S R B q C T x6 v5 v6 v8 v9' c_:D} {dp:Nat→Int} {b5 b v7 b_:Bool}
theorem aR (k:GP ms (len ms) M dp) (t:0<len v9') (u:BT B) (hR:RS ms B (len ms) R) (m:∀j,j<len ms→Kn B (nmI ms j)→∀r∈rfs ms j,Kn B r) {v0:D} {v1:Bool} {v2 d_ e_ f_:Int} {i:Nat} {l:List D} (h:CH ms i l) :
  ∀(A:List D) (r:D) (s:Int),v0.rows=nms (A++r::l)→ixN ms (len ms) r=(i:Nat)→Kn B r→A.length+i≤100→0≤s→s≤1000*(A.length:Int)→
  Je v0 (.bool v1) (.int v2) (.int s) (.int (A.length:Int)) v5 v6 (.bool v7) v8 v9' (.bool b_) (.int d_) (.int e_) (.int f_) c_ R=Je v0 (.bool v1) (.int v2) (.int (s+RG ms i)) (.int (len v0:Int)) v5 v6 (.bool v7) v8 v9' (.bool b_) (.int d_) (.int e_) (.int f_) c_ R:=by
 induction h with
 |@stop i h=>
  intro A r s g e n E F G;obtain ⟨hi,c⟩:=Kg e;have o:=GG k hi;have d:Kn B (nmI ms i):=n.congr u.sh (by rw [AR];exact c)
  have v:len v0=A.length+1:=by unfold len;rw [g];simp [nms]
  have w:cl v0 (A.length:Nat) 0=r:=by rw [E6 g (by simp)];simp
  have f:Bn v5 v6 (.bool v7) v8 v9' (.bool b_) c_ R r=.row [.int 1,.int (rg ms i),.int 0]:=by
   rw [Py t,←En hR.sh c,hR.yes i hi d]
  rw [Zl,ifT (by omega),ifF (by omega),w,f,AK]
  refine (?_:cond (decide ((0:Int)=0)) (Je _ _ _ (.int (wrap .i64 (s+rg ms i))) _ _ _ _ _ _ _ _ _ _ _ _) _=_);rw [ifT rfl,AM (by omega) (by omega),AL (by omega),h,v]
 |@next i x l h y w ih=>
  intro A r s g e n E F G;obtain ⟨hi,c⟩:=Kg e;have o:=GG k hi;have d:Kn B (nmI ms i):=n.congr u.sh (by rw [AR];exact c)
  have v:len v0=A.length+(l.length+2):=by unfold len;rw [g];simp [nms]
  have p:cl v0 (A.length:Nat) 0=r:=by rw [E6 g (by simp)];simp
  have f:Bn v5 v6 (.bool v7) v8 v9' (.bool b_) c_ R r=.row [.int 1,.int (rg ms i),.int 0]:=by
   rw [Py t,←En hR.sh c,hR.yes i hi d]
  have z:=List.mem_of_find?_eq_some y;have H:rv ms x=RG ms i-rg ms i:=by have:=List.find?_some y;simpa using this
  obtain ⟨K,I,_⟩:=k.ref' hi z;have:=ih (A++[r]) x (s+rg ms i) (by rw [g,Aeo];rfl) I (m i hi d x z) (by rw [la];simp only [kp,Aeb];omega) (by omega) (by rw [la];simp only [kp,Aeb];omega)
  rw [Zl,ifT (by omega),ifF (by omega),p,f,AK]
  refine (?_:cond (decide ((0:Int)=0)) (Je _ _ _ (.int (wrap .i64 (s+rg ms i))) _ _ _ _ _ _ _ _ _ _ _ _) _=_);rw [ifT rfl,AM (by omega) (by omega),AL (by omega)]
  have J:s+rg ms i+RG ms (ixI ms x)=s+RG ms i:=by unfold rv at H;omega
  rw [J] at this;rw [←this,la];rfl
end
theorem law {v0 v1 v2:D} (ht:∀m:Nat,m<len v1→FK (cl v1 m 1)) (J:TD v1):eC v0 v1 v2=.row [.int 1,.bool true]:=by
 rw [oO];rcases rp (v0:=v0) (v1:=v1) (v2:=v2) with g|⟨g,s,hs⟩
 ·rw [g];rfl
 rw [g,AK];refine (?_:cond true _ _=_);rw [qs]
 have hv:∀m:Nat,m<len v1→FT (cl v1 m 1):=fun m hm=>by
  obtain ⟨K,H⟩:=hs m hm;obtain ⟨a1,a2,a3,a4,a5,a6,a7,a8,a9,a10,a11⟩:=ht m hm;exact ⟨a1,a2,a3,a4,a5,a6,a7,a8,a9,K,a10,fun i hi=>(H i hi).2,fun i hi=>(H i hi).1,a11⟩
 rcases kK (v0:=v0) (v2:=v2) s hv with c|⟨c,⟨x,y,M,N,t,u,d,hM,w⟩⟩
 ·have k:Ep v0 v1 v2=.row [.int 1,BK,.bool true,.int 2]:=by rw [fA,c];rfl
  rw [k,c];rfl
 have L:HG v0 v1 v2=.row [.int 1,.int 0,.int 0,.int 0,.bool false]:=by
  rw [fu,u];exact (ifF (by show ¬(2:Int)=1;decide)).trans (ifT rfl)
 obtain ⟨q,e,C,b,T,R,B,n,O,I,hR,o,p⟩:=lc c J d s w;obtain ⟨S,A,P⟩:=kW v0 q v2 T e b d s O I hR p (a:=v0) (st:=v2);obtain ⟨i,hi,h,E,ac⟩:=d.at w;obtain ⟨l,j⟩:=CH.ex d i i (IqQ _) hi;have h2:=ch2 v0 v0 q v2 T e b d s O I hR p P v2 i l h (by omega) o j
 have Q:NE v0 v1 v2 v0 q (.bool e) v2 C (.bool b) T R S=.row [.int 1,adL Af (v2::l),.bool false,.int 0]:=h2;have n21:¬(sl (D.row [.int 2,v0,q,.bool e,v2,C,.bool b,T,R]) 0).toInt=1:=by show ¬(2:Int)=1;decide
 have y22:(sl (D.row [.int 2,v0,q,.bool e,v2,C,.bool b,T,R]) 0).toInt=2:=rfl
 have k:Ep v0 v1 v2=.row [.int 1,adL Af (v2::l),.bool false,.int 0]:=by
  rw [fA,c,AK];refine (?_:cond true _ _=_);rw [qs,n,ifF n21,ifT y22];refine (?_:cond (decide ((sl (LO v0 v1 v2 v0 q (.bool e) v2 C (.bool b) T R) 0).toInt=1)) (NE v0 v1 v2 v0 q (.bool e) v2 C (.bool b) T R (sl (LO v0 v1 v2 v0 q (.bool e) v2 C (.bool b) T R) 1)) _=_);rw [A,AK];exact Q
 have U:NT v0 v1 v2=.row [.int 1,adL Af (v2::l)]:=lH d s j h;have f:(adL Af (v2::l)).rows=nms (v2::l):=by have:=RE (v2::l) [] Af rfl;exact this
 have ab:len (adL Af (v2::l))=l.length+1:=by unfold len;rw [f];simp [nms]
 have ad:=j.len d hi;have ae:=d.low i hi;have V:=Yr (v:=adL Af (v2::l)) (b:=false) (b':=false) (by omega)
 obtain ⟨z,W⟩:=iC (S:=S) L s d.fo
 have X:¬mIx [.str] M (.row [nmI v1 i])<0:=by
  rw [d.ix,LM d hi];omega
 have Y:cl M (mIx [.str] M (.row [nmI v1 i])) 1=.int (t i):=by
  rw [d.ix,LM d hi];exact (d.cell hi).2
 have Z:lk S v2=some (.int (RG v1 i)):=by
  rw [←En P.sh E];exact P.yes i hi (o.congr I.sh (by rw [AR];exact E))
 obtain ⟨K,H⟩:=ET Z
 have aa:Gn v0 v1 v2=.row [.int 1,.int z,.int (t i),.int (RG v1 i),.int 0]:=by
  rw [mK v0 v1 v2 n A W rfl u,c,AK];refine (?_:cond true _ _=_);rw [qs,ifF n21,ifT y22,AK,PH (by omega),h,AK]
  refine (?_:cond (decide ((i:Int)<0)) _ (cond (decide ((2:Int)=1)) _ (cond (decide ((2:Int)=2)) (cond false _ (cond (decide ((i:Int)<len v1)) (cond (decide (mIx [.str] M (.row [nmI v1 i])<0)) _ (cond (decide ((1:Int)=1)) (cond (decide (mIx [.str] S (.row [v2])<0)) _ (D.row [.int 1,.int z,cl M (mIx [.str] M (.row [nmI v1 i])) 1,cl S (mIx [.str] S (.row [v2])) 1,.int 0])) _)) _)) _))=_);rw [ifF (by omega),ifF (by decide),ifT rfl,lp,ifT (by omega),ifF X,ifT rfl,ifF K,Y,H]
 rw [k,AK,c,AK];refine (?_:cond true _ _=_);rw [qs,U,AK];have F:Rj (sl (D.row [.int 1,adL Af (v2::l),.bool false,.int 0]) 1) (sl (D.row [.int 1,adL Af (v2::l),.bool false,.int 0]) 2) (sl (D.row [.int 1,adL Af (v2::l)]) 1) (.bool false)=.row [.int 1,.bool true]:=V;rw [F,AK];refine (?_:cond true (cond (decide ((0:Int)=0)) _ _) _=_);rw [qs,ifT rfl,n,ifF n21,ifT y22,aa,AK];refine (?_:Je (adL Af (v2::l)) (.bool false) (.int 0) (.int 0) (.int 0) v0 q (.bool e) v2 C (.bool b) (.int z) (.int (t i)) (.int (RG v1 i)) T R=_);have G:=aR (v5:=v0) (v6:=q) (v7:=e) (v8:=v2) (v9':=C) (b_:=b) (c_:=T) (v1:=false) (v2:=0) (d_:=z) (e_:=t i) (f_:=RG v1 i) d O I hR p j [] v2 0 f h o (by simp only [Aeb];omega) (Aeg _) (by simp)
 have r:Je (adL Af (v2::l)) (.bool false) (.int 0) (.int 0) (.int 0) v0 q (.bool e) v2 C (.bool b) (.int z) (.int (t i)) (.int (RG v1 i)) T R=_:=G;rw [r,Zl,ifF (by omega),ifT (by decide),ifT (by omega),ifF (by omega)]
end
end Mc

