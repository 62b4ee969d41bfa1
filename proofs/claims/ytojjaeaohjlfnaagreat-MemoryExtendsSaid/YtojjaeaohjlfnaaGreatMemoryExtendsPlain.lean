/- What is proved: what the plain functions over data say, whose trees the text before writes out: the law MemoryExtends answers true. Conditions: those that each theorem states. -/
import Derived.Test.YtojjaeaohjlfnaaGreatMemoryExtendsPlainA
set_option linter.unusedVariables false
set_option linter.unusedSectionVars false
set_option linter.unusedSimpArgs false
namespace Mx
open Go Go.AE
theorem G1 {M a b x:D}:upd (ad M (.row [a,b])) (len M:Int) 1 x=ad M (.row [a,x]):=by
 have h:∀l:List D,(l++[D.row [a,b]]).modify l.length (fun r=>D.row (r.cells.set 1 x))=l++[D.row [a,x]]:=fun l=>by
  induction l with
  |nil=>rfl
  |cons y l ih=>simp [List.modify_succ_cons,ih]
 show D.slc false ((M.rows++[D.row [a,b]]).modify (len M) _)=D.slc false _;rw [show len M=M.rows.length from rfl,h]
section
variable [Ap]
structure MM (M N:D):Prop where
 ints:∀r∈M.rows,∃x n,r=.row [x,.int n]
 bools:∀r∈N.rows,∃x b,r=.row [x,.bool b]
 same:∀k,mIx [.str] M (.row [k])<0↔mIx [.str] N (.row [k])<0
theorem MM.empty:MM Ad Ad:=⟨fun r l=>(by cases l),fun r l=>(by cases l),fun k=>Iff.rfl⟩
theorem Tt {M r s:D} (h:s∈(ad M r).rows):s∈M.rows∨s=r:=(rc.1 h).imp id vy.1
theorem MM.put {M N k:D} {n:Int} {b:Bool} (h:MM M N):MM (ad M (.row [k,.int n])) (ad N (.row [k,.bool b])):=by
 have h1:∀r∈M.rows,∃x l,r=.row (x::l):=fun r t=>by obtain ⟨x,n,e⟩:=h.ints r t;exact ⟨x,_,e⟩
 have h2:∀r∈N.rows,∃x l,r=.row (x::l):=fun r t=>by obtain ⟨x,n,e⟩:=h.bools r t;exact ⟨x,_,e⟩
 refine ⟨fun r t=>(Tt t).elim (h.ints r) fun e=>⟨_,_,e⟩,fun r t=>(Tt t).elim (h.bools r) fun e=>⟨_,_,e⟩,fun q=>?_⟩
 rw [Kb h1,Kb h2];have I:=h.same q;by_cases a1:0≤mIx [.str] M (.row [q])
 ·have J:0≤mIx [.str] N (.row [q]):=Int.not_lt.1 fun hh=>absurd (I.2 hh) (by omega)
  rw [if_pos a1,if_pos J];exact I
 ·have J:¬0≤mIx [.str] N (.row [q]):=fun hh=>a1 (Int.not_lt.1 fun h3=>absurd (I.1 h3) (by omega))
  rw [if_neg a1,if_neg J];by_cases a2:D.strEq k q=true
  ·rw [if_pos a2,if_pos a2];constructor<;>intro _<;>omega
  ·rw [if_neg a2,if_neg a2]
theorem Yh {M:D} {i:Int} {c:Nat} (b:0≤i) (d:i<len M):∃r∈M.rows,cl M i c=sl r c:=by
 obtain ⟨n,rfl⟩:=vv b;have a:n<M.rows.length:=by have:(n:Int)<len M:=d;unfold len at this;omega
 refine ⟨M.rows[n],zF a,?_⟩;have e:M.rows.getD n default=M.rows[n]:=by simp [AE.Id,a]
 show (M.rows.getD n default).cells.getD c default=(M.rows[n]).cells.getD c default;rw [e]
theorem MM.int {M N k:D} (h:MM M N) (hk:¬mIx [.str] M (.row [k])<0):∃n,cl M (mIx [.str] M (.row [k])) 1=.int n:=by
 have J:∀r∈M.rows,∃x l,r=.row (x::l):=fun r t=>by obtain ⟨x,n,e⟩:=h.ints r t;exact ⟨x,_,e⟩
 have I:mIx [.str] M (.row [k])<len M:=by
  rw [Cu J];have:=D1 (p:=fun i=>D.strEq (cl M i 0) k) (k:=len M) (i:=0);omega
 obtain ⟨r,t,e⟩:=Yh (c:=1) (by omega) I
 obtain ⟨x,n,e2⟩:=h.ints r t;exact ⟨n,by rw [e,e2];rfl⟩
theorem MM.bool {M N k:D} (h:MM M N) (hk:¬mIx [.str] N (.row [k])<0):∃n,cl N (mIx [.str] N (.row [k])) 1=.bool n:=by
 have J:∀r∈N.rows,∃x l,r=.row (x::l):=fun r t=>by obtain ⟨x,n,e⟩:=h.bools r t;exact ⟨x,_,e⟩
 have I:mIx [.str] N (.row [k])<len N:=by
  rw [Cu J];have:=D1 (p:=fun i=>D.strEq (cl N i 0) k) (k:=len N) (i:=0);omega
 obtain ⟨r,t,e⟩:=Yh (c:=1) (by omega) I
 obtain ⟨x,n,e2⟩:=h.bools r t;exact ⟨n,by rw [e,e2];rfl⟩
theorem Hf {M a b:D} (c:∀r∈M.rows,∃x l,r=.row (x::l)) (h:D.strEq a b=true):mIx [.str] M (.row [a])=mIx [.str] M (.row [b]):=by
 rw [Cu c,Cu c];refine C0 fun j _ _=>?_
 rw [A2,Jk h,A2]
theorem MM.shape {M N:D} (h:MM M N):∀r∈M.rows,∃x l,r=.row (x::l):=fun r t=>by obtain ⟨x,n,e⟩:=h.ints r t;exact ⟨x,_,e⟩
def nms (l:List D):List D:=l.map fun x=>.row [x]
def RFi (v:D) (i:Nat):List D:=if kd v i=7∨kd v i=8∨kd v i=12 then [cl v i 9] else if kd v i=9 then (List.range (len (cl v i 12))).map fun (j:Nat)=>cl (cl v i 12) j 2 else []
def RF (v:D):Nat→List D
 |0=>[]
 |i+1=>RF v i++RFi v i
theorem UE {v r:D}:∀{n:Nat},r∈RF v n→∃i,i<n∧r∈RFi v i
 |n+1,h=>by
  rcases rc.1 h with c|c
  ·obtain ⟨i,a,b⟩:=UE c;exact ⟨i,by omega,b⟩
  ·exact ⟨n,by omega,c⟩
theorem Ii {v:D} (hv:FT v):∀n:Nat,n≤len v→(RF v n).length≤10*n
 |0,_=>L1 _
 |n+1,h=>by
  have:=Ii hv n (by omega)
  have a:=hv.len12 n (by omega)
  have:(RFi v n).length≤10:=by
   unfold RFi
   repeat' split
   all_goals simp
   all_goals omega
  rw [RF,lv];omega
def R17 (v d:D):Prop:=∃l,d=.row [.int 1,l]∧l.rows=nms (RF v (len v))
theorem PG {l:List D} {a x:D} (h:a.rows=nms l):(ad a (.row [x])).rows=nms (l++[x]):=by
 show a.rows++[_]=_;rw [h];simp [nms]
theorem Zn {v:D} (hv:FT v):∀k i (a:D) (b:Bool),i+k=len v→a.rows=nms (RF v i)→R17 v (HK v (.int (i:Nat)) a (.bool b))
 |0,i,a,b,h,d=>by
  have:i=len v:=h;subst this;rw [fA,ifF (by omega)]
  exact ⟨_,rfl,d⟩
 |k+1,i,a,b,h,d=>by
  have few:=hv.few;have w:=hv.len12 i (by omega)
  have s:=Ii hv i (by omega)
  have n:len a=(RF v i).length:=by unfold len;rw [d];simp [nms]
  have nx:∀c o,c.rows=nms (RF v (i+1))→R17 v (HK v (.int ((i+1:Nat):Int)) c (.bool o)):=fun c o h'=>Zn hv k (i+1) c o (by omega) h'
  have e:kd v i=9→∀m j (a:D) (b:Bool),j+m=len (cl v i 12)→a.rows=nms (RF v i++(List.range j).map fun (q:Nat)=>cl (cl v i 12) q 2)→R17 v (VO v (.int (i:Nat)) (cl v i 12) (.int (len (cl v i 12):Int)) (.int (j:Nat)) a (.bool b)):=by
   intro l m
   induction m with
   |zero=>
    intro j a b hj d;have:j=len (cl v i 12):=hj;subst this;rw [eC,ifF (by omega),AL (by omega)]
    refine nx a b ?_;rw [RF,RFi,if_neg (by omega),if_pos l];exact d
   |succ m ih=>
    intro j a b hj d;have n:len a=(RF v i).length+j:=by unfold len;rw [d];simp [nms]
    rw [eC,ifT (by omega),ifF (by omega),ifT (by omega),ifT (by omega),AL (by omega)]
    refine ih (j+1) _ false (by omega) ?_
    rw [PG d,List.range_succ,List.map_append,List.append_assoc];rfl
  have f:(len a:Int)<1073741824:=by omega
  have t:(cl v i 1).toInt=kd v i:=rfl;rw [fA,ifT (by omega),ifF (by omega),AL (by omega),t]
  have st:kd v i=7∨kd v i=8∨kd v i=12→R17 v (HK v (.int ((i+1:Nat):Int)) (ad a (.row [(cl v i 9)])) (.bool false)):=fun u=>nx _ false (by rw [PG d,RF,RFi,if_pos u])
  by_cases p:kd v i=7
  ·rw [ifT p];exact qT f (st (.inl p))
  ·rw [ifF p];by_cases r:kd v i=8
   ·rw [ifT r];exact qT f (st (.inr (.inl r)))
   ·rw [ifF r];by_cases g:kd v i=12
    ·rw [ifT g];exact qT f (st (.inr (.inr g)))
    ·rw [ifF g];by_cases l:kd v i=9
     ·rw [ifT l];exact e l (len (cl v i 12)) 0 a b (by omega) (by rw [d];simp)
     ·rw [ifF l];exact nx a b (by rw [RF,RFi,if_neg (by omega),if_neg l,zJ];exact d)
theorem Kg {v0 v:D} (hv:FT v):R17 v (AK v0 v):=by
 rw [Z6];exact Zn hv (len v) 0 B0 true (by omega) rfl
theorem hZ {v k:D} (h:len v≤1000000):E3 v k=.row [.int 1,.int (fdG (fun j=>D.strEq k (cl v j 0)) (len v) 0)]:=by
 rw [vX];refine find (F:=fun j=>OX v k (.int (j:Nat))) (bad:=fun i=>D.strEq k (cl v i 0)) (n:=len v) ?_ ?_
 ·intro j hj;refine (?_:OX v k (.int ((j:Nat):Int))=_);rw [eD,ifT (by omega),ifF (by omega),AL (by omega)]
 ·refine (?_:OX v k (.int ((len v:Nat):Int))=_);rw [eD,ifF (by omega)]
theorem Mi {l:D} {i:Nat} (h:len l≤1000) (hi:i<len l):∃z:Int,E3 (sb l 0 (i:Nat)) (cl l i 0)=.row [.int 1,.int z]∧(¬z<0→∃j:Nat,j<i∧D.strEq (cl l i 0) (cl l j 0)=true)∧(z<0→∀j:Nat,j<i→D.strEq (cl l i 0) (cl l j 0)=false):=by
 have d:len (sb l 0 (i:Nat))=i:=by rw [Nl (by simp) (by simp;omega)];simp
 refine ⟨_,hZ (by rw [d];omega),fun c=>?_,fun c j hj=>?_⟩
 ·rw [d] at c;have e:=Fg (p:=fun j=>D.strEq (cl l i 0) (cl (sb l 0 (i:Nat)) j 0)) (k:=i) (i:=0) (by omega)
  have f:=D1 (p:=fun j=>D.strEq (cl l i 0) (cl (sb l 0 (i:Nat)) j 0)) (k:=i) (i:=0)
  obtain ⟨m,g⟩:=vv (show 0≤fdG (fun j=>D.strEq (cl l i 0) (cl (sb l 0 (i:Nat)) j 0)) i 0 by omega)
  rw [g] at e f;have a:m<i:=by omega
  have b:D.strEq (cl l i 0) (cl (sb l 0 (i:Nat)) m 0)=true:=e;rw [O7 (Nat.le_of_lt hi) a] at b;exact ⟨m,a,b⟩
 ·rw [d] at c;have:=In (p:=fun j=>D.strEq (cl l i 0) (cl (sb l 0 (i:Nat)) j 0)) (k:=i) (i:=0) (j:=j) (by omega) (.inr ⟨c,by omega⟩)
  have b:D.strEq (cl l i 0) (cl (sb l 0 (i:Nat)) j 0)=false:=this;rw [O7 (Nat.le_of_lt hi) hj] at b;exact b
def dpM (M k:D):Int:=(cl M (mIx [.str] M (.row [k])) 1).toInt
def Kn (M k:D):Prop:=¬mIx [.str] M (.row [k])<0
def R19 (M l d:D):Prop:=∃b n,d=.row [.int 1,.bool b,.int n]∧0≤n∧∀j:Nat,j<len l→Kn M (cl l j 0)→dpM M (cl l j 0)≤n
section
variable {v0 v1 v2 v7 v8:D} {v5 v6:Int}
theorem ZC {l M N:D} (m:MM M N) (u:len l≤1000):∀k i (b:Bool) (n:Int),i+k=len l→0≤n→(∀j:Nat,j<i→Kn M (cl l j 0)→dpM M (cl l j 0)≤n)→R19 M l (CA l (.int (i:Nat)) v0 v1 v2 (.int v5) (.int v6) v7 v8 M N (.bool b) (.int n))
 |0,i,b,n,h,v,q=>by
  have:i=len l:=h;subst this;rw [RK,ifF (by omega)]
  exact ⟨_,_,rfl,v,q⟩
 |k+1,i,b,n,h,v,q=>by
  obtain ⟨z,x,r,_⟩:=Mi (l:=l) (i:=i) u (by omega)
  have nx:∀s d,n≤d→(Kn M (cl l i 0)→dpM M (cl l i 0)≤d)→R19 M l (CA l (.int ((i+1:Nat):Int)) v0 v1 v2 (.int v5) (.int v6) v7 v8 M N (.bool s) (.int d)):=fun s d y hi=>ZC m u k (i+1) s d (by omega) (by omega) fun j hj f=>by
   rcases R2 j i with o|o
   ·have:=q j o f;omega
   ·have:j=i:=by omega
    subst this;exact hi f
  rw [RK,ifT (by omega),ifF (by omega),ifF (by omega),x,AL (by omega)]
  refine qT rfl ?_;refine (?_:R19 M l (cond (decide (z<0)) _ _));by_cases g:z<0
  ·rw [ifT g];by_cases m1:mIx [.str] M (.row [cl l i 0])<0
   ·have m2:=(m.same _).1 m1;have no:∀d,Kn M (cl l i 0)→dpM M (cl l i 0)≤d:=fun d f=>absurd m1 f
    rw [ifT m1];rw [ifF (by omega)]
    exact qc (qT m2 (nx _ _ (by omega) (no _))) (nx _ _ (by omega) (no _))
   ·obtain ⟨a,w⟩:=m.int m1;have m2:¬mIx [.str] N (.row [cl l i 0])<0:=fun h=>m1 ((m.same _).2 h)
    obtain ⟨c,A⟩:=m.bool m2;have C:dpM M (cl l i 0)=a:=by unfold dpM;rw [w];rfl
    rw [ifF m1,w,A];refine (?_:R19 M l (cond (decide (n<a)) _ _));by_cases p:n<a
    ·rw [ifT p];have le:Kn M (cl l i 0)→dpM M (cl l i 0)≤a:=fun _=>by omega
     exact qc (qF m2 (nx _ _ (by omega) le)) (nx _ _ (by omega) le)
    ·rw [ifF p];have le:Kn M (cl l i 0)→dpM M (cl l i 0)≤n:=fun _=>by omega
     exact qc (qF m2 (nx _ _ (by omega) le)) (nx _ _ (by omega) le)
  ·rw [ifF g];obtain ⟨j,hj,B⟩:=r g;refine nx _ _ (by omega) fun f=>?_
   have e:=Hf m.shape B;have t:Kn M (cl l j 0):=by unfold Kn at f ⊢;rw [←e];exact f
   have:=q j hj t;unfold dpM at this ⊢;rw [e];exact this
theorem X9 {l M N:D} {b:Bool} (a:MM M N) (c:len l≤1000):R19 M l (LQ v0 v1 v2 M N (.int v5) (.int v6) v7 v8 (.bool b) (.int 0) l):=by
 rw [Y2];exact ZC a c (len l) 0 b 0 (by omega) (by omega) fun j hj=>absurd hj (gk _)
end
structure FO (v:D):Prop where
 ft:FT v
 ex:∀i,i<len v→EX v i
def Q20 (nm v M N d:D):Prop:=(∃a b c e x y f g,d=.row [.int 1,.int a,.int b,.int c,.int e,x,y,f,g])∨
 (∃(b:Bool) (n:Int),d=.row [.int 2,nm,v,ad M (.row [nm,.int (n+1)]),ad N (.row [nm,.bool b])]∧0≤n∧n<16∧Bn nm=true∧FO v∧¬Kn M nm∧∀r∈RF v (len v),Kn M r∧dpM M r≤n)
section
variable {v0 v1 v2 v7 v8 nm:D} {v5 v6:Int}
theorem RX.kn {M N v r:D} {i:Nat} (I:MM M N) (h:RX M N v i) (l:r∈RFi v i):Kn M r:=by
 obtain ⟨t,J,h3⟩:=h;unfold RFi at l;split at l
 ·rename_i hk;cases vy.1 l;rcases hk with k7|k8|k12
  ·exact t (.inl k7)
  ·exact t (.inr k8)
  ·exact fun hh=>J k12 ((I.same _).1 hh)
 ·split at l
  ·rename_i k9;obtain ⟨j,hj,rfl⟩:=List.mem_map.1 l;exact h3 k9 j (List.mem_range.1 hj)
  ·cases l
theorem Mk {l:D} {L:List D} (h:l.rows=nms L) {j:Nat} (hj:j<L.length):cl l j 0=L[j]:=by
 unfold cl;rw [h];simp [nms,AE.Id,hj,D.cells]
theorem W6 {v M N:D} (w:MM M N) (hv:FT v) (p:Bn nm=true) (x:mIx [.str] M (.row [nm])<0):∀k i (z:Int) (b:Bool),i+k=len v→(∀j,j<i→EX v j∧RX M N v j)→Q20 nm v M N (FG v (.int (i:Nat)) v0 v1 v2 (.int v5) (.int z) nm M N (.bool b))
 |0,i,z,b,h,d=>by
  have:i=len v:=h;subst this;obtain ⟨l,I,f⟩:=Kg (v0:=nm) hv;have few:=hv.few;have J:=Ii hv (len v) (L1 _);have G:len l=(RF v (len v)).length:=by show l.rows.length=_;rw [f];simp [nms]
  obtain ⟨m,s,A,B,C⟩:=X9 (v0:=v0) (v1:=v1) (v2:=v2) (v5:=v5) (v6:=-1) (v7:=nm) (v8:=v) (b:=b) w (l:=l) (by omega)
  have t:LQ v0 v1 v2 M N (.int v5) (.int (-1)) nm v (.bool b) (.int 0) (sl (.row [.int 1,l]) 1)=.row [.int 1,.bool m,.int s]:=A;rw [K2 _ _ _ _ _ _ _ _ _ _ _ rfl rfl,ifF (by omega),I,t]
  refine qT rfl (qT rfl (qT x (qT ((w.same nm).1 x) ?_)));refine (?_:Q20 nm v M N (cond (decide (s<16)) _ _));by_cases n:s<16
  ·rw [ifT n,G1,G1];refine .inr ⟨m,s,?_,B,n,p,⟨hv,fun j hj=>(d j hj).1⟩,fun y=>y x,fun r H=>?_⟩
   ·refine (?_:D.row [.int 2,nm,v,ad M (.row [nm,.int (IntKind.wrap .i64 (s+1))]),ad N (.row [nm,.bool m])]=_);rw [A4 (by omega) (by omega)]
   ·obtain ⟨i,hi,E⟩:=UE H;have y:=(d i hi).2.kn w E;obtain ⟨q,K,o⟩:=ue H;have e:cl l q 0=r:=by rw [Mk f K];exact o
    refine ⟨y,?_⟩;have:=C q (by omega) (by rw [e];exact y)
    rw [e] at this;exact this
  ·rw [ifF n];exact .inl ⟨_,_,_,_,_,_,_,_,rfl⟩
 |k+1,i,z,b,h,d=>by
  have few:=hv.few
  have nx:∀(F:Int) (m:Bool),EX v i∧RX M N v i→Q20 nm v M N (FG v (.int ((i+1:Nat):Int)) v0 v1 v2 (.int v5) (.int F) nm M N (.bool m)):=fun F m o=>W6 w hv p x k (i+1) F m (by omega) fun j hj=>by
   rcases R2 j i with u|u
   ·exact d j u
   ·have:j=i:=by omega
    subst this;exact o
  have L:DN v i:=fun j q O P=>(d q P).1.new j O
  rw [K2 _ _ _ _ _ _ _ _ _ _ _ rfl rfl,ifT (by omega),ifF (by omega),AL (by omega)]
  rcases YI (v0:=v0) (v1:=v1) (v2:=v2) (v3:=M) (v4:=N) (v5:=v5) (v7:=nm) hv (i:=i) (by omega) L with ⟨a,c,e,g⟩|⟨g,o⟩
  ·rw [g];exact qT rfl (.inl ⟨_,_,_,_,_,_,_,_,rfl⟩)
  ·rw [g];refine qF (by show ¬(2:Int)=1;decide) (qT rfl (qc (nx _ _ o) (nx _ _ o)))
theorem Za {v M N:D} (c:MM M N) (hv:FT v):Q20 nm v M N (MV v0 v1 v2 M N (.int v5) (.int v6) v7 v8 nm v):=by
 have few:=hv.few;rw [UW,JH];refine qT rfl ?_;refine (?_:Q20 nm v M N (cond (Bn nm) _ _));cases a:Bn nm with
 |false=>exact .inl ⟨_,_,_,_,_,_,_,_,rfl⟩
 |true=>
 rw [vx];by_cases b:mIx [.str] M (.row [nm])<0
 ·rw [ifT b];exact qc (.inl ⟨_,_,_,_,_,_,_,_,rfl⟩) (qc (.inl ⟨_,_,_,_,_,_,_,_,rfl⟩) (W6 c hv a b (len v) 0 (-1) true (by omega) fun j hj=>absurd hj (gk _)))
 ·rw [ifF b];exact .inl ⟨_,_,_,_,_,_,_,_,rfl⟩
end
def nmI (a:D) (i:Nat):D:=cl a i 0
def fsI (a:D) (i:Nat):D:=cl a i 1
def ixN (a:D) (n:Nat) (k:D):Int:=fdG (fun i=>D.strEq (nmI a i) k) n 0
structure GP (ms:D) (n:Nat) (M:D) (dp:Nat→Int):Prop where
 rows:M.rows=(List.range n).map fun i=>.row [nmI ms i,.int (dp i)]
 low:∀i,i<n→1≤dp i∧dp i≤16
 refs:∀i,i<n→∀r∈RF (fsI ms i) (len (fsI ms i)),∃j,j<i∧D.strEq (nmI ms j) r=true∧dp j<dp i
 dist:∀j k,j<k→k<n→D.strEq (nmI ms j) (nmI ms k)=false
 fo:∀i,i<n→FO (fsI ms i)
 nb:∀i,i<n→Bn (nmI ms i)=true
theorem GP.ln {ms M:D} {n:Nat} {l:Nat→Int} (h:GP ms n M l):len M=n:=by unfold len;rw [h.rows];simp
theorem GP.shape {ms M:D} {n:Nat} {I:Nat→Int} (h:GP ms n M I):∀r∈M.rows,∃x l,r=.row (x::l):=fun r t=>by
 rw [h.rows] at t;obtain ⟨i,_,rfl⟩:=List.mem_map.1 t;exact ⟨_,_,rfl⟩
theorem GP.cell {ms M:D} {n:Nat} {l:Nat→Int} (h:GP ms n M l) {i:Nat} (hi:i<n):cl M i 0=nmI ms i∧cl M i 1=.int (l i):=by
 unfold cl;rw [h.rows];simp [AE.Id,hi,D.cells]
theorem GP.ix {ms M k:D} {n:Nat} {l:Nat→Int} (h:GP ms n M l):mIx [.str] M (.row [k])=ixN ms n k:=by
 rw [Cu h.shape,h.ln];exact C0 fun j _ hj=>by rw [(h.cell (by omega)).1]
theorem GP.at {ms M k:D} {n:Nat} {l:Nat→Int} (h:GP ms n M l) (r:Kn M k):∃j,j<n∧ixN ms n k=j∧D.strEq (nmI ms j) k=true∧dpM M k=l j:=by
 unfold Kn at r;rw [h.ix] at r;obtain ⟨j,hj⟩:=vv (show 0≤ixN ms n k by omega)
 have t:=Fg (p:=fun i=>D.strEq (nmI ms i) k) (k:=n) (i:=0) (by unfold ixN at hj;omega)
 have I:=D1 (p:=fun i=>D.strEq (nmI ms i) k) (k:=n) (i:=0)
 unfold ixN at hj;rw [hj] at t I;refine ⟨j,by omega,hj,t,?_⟩
 unfold dpM;rw [h.ix];unfold ixN;rw [hj,(h.cell (by omega)).2];rfl
theorem GP.empty {ms:D} {l:Nat→Int}:GP ms 0 Ad l:=⟨rfl,fun i hi=>absurd hi (gk _),fun i hi=>absurd hi (gk _),fun j k _ r=>absurd r (gk _),fun i hi=>absurd hi (gk _),fun i hi=>absurd hi (gk _)⟩
theorem GP.next {ms M:D} {n:Nat} {dp:Nat→Int} (h:GP ms n M dp) {d:Int} (hd:0≤d∧d<16) (I:Bn (nmI ms n)=true) (J:FO (fsI ms n)) (l:¬Kn M (nmI ms n)) (hr:∀r∈RF (fsI ms n) (len (fsI ms n)),Kn M r∧dpM M r≤d) :
  GP ms (n+1) (ad M (.row [nmI ms n,.int (d+1)])) fun i=>if i=n then d+1 else dp i:=by
 have al:∀j,j<n→D.strEq (nmI ms j) (nmI ms n)=false:=fun j hj=>by
  unfold Kn at l;rw [h.ix] at l;exact In (p:=fun i=>D.strEq (nmI ms i) (nmI ms n)) (k:=n) (i:=0) (by omega) (.inr ⟨by unfold ixN at l;omega,by omega⟩)
 refine ⟨?_,fun i hi=>?_,fun i hi r t=>?_,fun j k h1 h2=>?_,fun i hi=>?_,fun i hi=>?_⟩
 ·show M.rows++[_]=_;rw [h.rows,List.range_succ,List.map_append]
  congr 1
  ·refine List.map_congr_left fun i hi=>?_
   have:=List.mem_range.1 hi;rw [if_neg (by omega)]
  ·simp
 ·by_cases e:i=n
  ·rw [if_pos e];omega
  ·rw [if_neg e];exact h.low i (by omega)
 ·by_cases e:i=n
  ·subst e;obtain ⟨hk,ar⟩:=hr r t;obtain ⟨j,hj,_,hs,av⟩:=h.at hk;refine ⟨j,hj,hs,?_⟩;rw [if_neg (by omega),if_pos rfl];omega
  ·obtain ⟨j,hj,hs,an⟩:=h.refs i (by omega) r t
   refine ⟨j,hj,hs,?_⟩;rw [if_neg (by omega),if_neg e];exact an
 ·by_cases e:k=n
  ·subst e;exact al j h1
  ·exact h.dist j k h1 (by omega)
 ·by_cases e:i=n
  ·subst e;exact J
  ·exact h.fo i (by omega)
 ·by_cases e:i=n
  ·subst e;exact I
  ·exact h.nb i (by omega)
def Good (ms st M N:D) (a:Nat→Int):Prop:=GP ms (len ms) M a∧MM M N∧Kn M st
def Q21 (v2 e st d:D):Prop:=(∃c r,d=.row (.int 1::.int c::r))∨(∃a b c r,d=.row (.int 2::.int a::.int b::.int c::.bool true::r))∨
 (∃x y M N f,d=.row [.int 2,.int 0,.int 0,.int 0,.bool false,v2,e,st,.int (-1),.int (-1),x,y,M,N]∧Good e st M N f)
theorem Z2 {d v2 st:D} (t:len d≤1000) (hv:∀m:Nat,m<len d→FT (cl d m 1)):∀k i (z:Int) (x y M N:D) (j:Nat→Int),i+k=len d→MM M N→GP d i M j→Q21 v2 d st (Jf d (.int (i:Nat)) v2 st (.int z) x y M N)
 |0,i,z,x,y,M,N,j,h,l,o=>by
  have:i=len d:=h;subst this;rw [KZ _ _ _ _ _ _ _ _ _ rfl,ifF (by omega)]
  by_cases p:mIx [.str] M (.row [st])<0
  ·rw [ifT p];exact .inr (.inl ⟨_,_,_,_,rfl⟩)
  ·rw [ifF p];exact .inr (.inr ⟨_,_,_,_,j,rfl,o,l,p⟩)
 |k+1,i,z,x,y,M,N,j,h,l,o=>by
  rw [KZ _ _ _ _ _ _ _ _ _ rfl,ifT (by omega),ifF (by omega),AL (by omega)]
  rcases Za (v0:=v2) (v1:=d) (v2:=st) (v5:=(i:Nat)) (v6:=-1) (v7:=x) (v8:=y) (nm:=cl d i 0) l (hv i (by omega)) with ⟨a,b,c,e,w,A,B,C,g⟩|⟨b,n,g,u,q,r,s,f,v⟩
  ·rw [g];exact qT rfl (.inr (.inl ⟨_,_,_,_,rfl⟩))
  ·rw [g];refine qF (by show ¬(2:Int)=1;decide) (qT rfl ?_)
   exact Z2 t hv k (i+1) _ _ _ _ _ _ (by omega) l.put (o.next ⟨u,q⟩ r s f v)
theorem YL {v0 ms st:D} (a:len ms≤1000) (hv:∀m:Nat,m<len ms→FT (cl ms m 1)):Q21 v0 ms st (Do v0 ms st):=by
 rw [ZZ,JH];refine qT rfl (qc ?_ (.inl ⟨_,_,rfl⟩));exact qc (.inl ⟨_,_,rfl⟩) (qc (.inl ⟨_,_,rfl⟩) (Z2 a hv (len ms) 0 (-1) _ _ _ _ (fun _=>0) (by omega) MM.empty GP.empty))
def Q22 (v0 e st d:D):Prop:=(∃a b c:Int,d=.row [.int 1,.int a,.int b,.int c,.bool true])∨
 (d=.row [.int 1,.int 0,.int 0,.int 0,.bool false]∧∃x y M N f,Do v0 e st=.row [.int 2,.int 0,.int 0,.int 0,.bool false,v0,e,st,.int (-1),.int (-1),x,y,M,N]∧Good e st M N f)
theorem io {v0 ms st:D} (d:len ms≤1000) (hv:∀m:Nat,m<len ms→FT (cl ms m 1)):Q22 v0 ms st (Et v0 ms st):=by
 rw [fc];rcases YL (v0:=v0) (st:=st) d hv with ⟨c,r,g⟩|⟨a,b,c,r,g⟩|⟨x,y,M,N,e,g,f⟩
 ·rw [g];exact qT rfl (.inl ⟨_,_,_,rfl⟩)
 ·rw [g];exact qF (by show ¬(2:Int)=1;decide) (qT rfl (.inl ⟨_,_,_,rfl⟩))
 ·rw [g];exact qF (by show ¬(2:Int)=1;decide) (qT rfl (.inr ⟨rfl,x,y,M,N,e,g,f⟩))
end
end Mx
namespace Mx
open Go Go.AE
theorem ES {x y:Int} (a:y≠0) (b:0≤x):ari .rem .i64 x y=x%y:=by
 have c:(y==0)=false:=by simpa using a
 have e:ari .rem .i64 x y=x.tmod y:=by
  show (match (match y==0 with|true=>none|false=>some (AV.int .i64 (x.tmod y))) with|some (.int _ n)=>n|_=>0)=_
  rw [c]
 rw [e,Int.tmod_eq_emod_of_nonneg b]
theorem bg {x y:Int} (b:0<y) (a:0≤x) (d:x<4611686018427387904):ari .quo .i64 x y=x/y:=by
 have c:(y==0)=false:=by simpa using Int.ne_of_gt b
 have e:ari .quo .i64 x y=IntKind.wrap .i64 (x.tdiv y):=by
  show (match (match y==0 with|true=>none|false=>some (AV.int .i64 (IntKind.wrap .i64 (x.tdiv y)))) with|some (.int _ n)=>n|_=>0)=_
  rw [c]
 have f:0≤x/y:=Int.ediv_nonneg a (Int.le_of_lt b);have g:x/y≤x:=Int.ediv_le_self _ a;rw [e,Int.tdiv_eq_ediv_of_nonneg a,A4 (by omega) (by omega)]
def stp (k b o:Int):Int:=if k=1∨k=2 then (o+b)%8 else if k=10 then (if b=2 then ((o+1)/2*2)%8 else if b=4 then ((o+3)/4*4)%8 else 0) else 0
def bt (v:D) (i:Int):Int:=(cl v i 2).toInt
def off (v:D):Nat→Int
 |0=>0
 |i+1=>stp (kd v i) (bt v i) (off v i)
theorem Vy {k b o:Int} (h:0≤o∧o≤7):0≤stp k b o∧stp k b o≤7:=by
 unfold stp
 repeat' split
 all_goals omega
theorem Vz {v:D}:∀i,0≤off v i∧off v i≤7
 |0=>⟨zw _,(by decide:(0:Int)≤7)⟩
 |i+1=>Vy (Vz i)
theorem eT {o b:Int} (h:0≤o∧o≤7) (e:b=2∨b=4∨(8≤b∧b≤512∧ari .rem .i64 b 8=0)):ari .rem .i64 (IntKind.wrap .i64 ((ari .quo .i64 (IntKind.wrap .i64 ((IntKind.wrap .i64 (o+b))-1)) b)*b)) 8=stp 10 b o:=by
 have d:stp 10 b o=if b=2 then ((o+1)/2*2)%8 else if b=4 then ((o+3)/4*4)%8 else 0:=rfl
 have c:0<b:=by omega
 have f:b≤512:=by omega
 rw [A4 (a:=o+b) (by omega) (by omega),A4 (a:=o+b-1) (by omega) (by omega),bg c (by omega) (by omega),d]
 rcases e with rfl|rfl|⟨g,i,b3⟩
 ·rw [A4 (by omega) (by omega),ES (by decide) (by omega),if_pos rfl,show o+2-1=o+1 by omega]
 ·rw [A4 (by omega) (by omega),ES (by decide) (by omega),if_neg (by decide),if_pos rfl,show o+4-1=o+3 by omega]
 ·rw [ES (by decide) (by omega)] at b3
  rw [if_neg (by omega),if_neg (by omega)]
  by_cases j:o=0
  ·have:(o+b-1)/b=0:=((Int.ediv_emod_unique c (q:=0) (r:=o+b-1)).2 ⟨by omega,by omega,by omega⟩).1
   rw [this,Int.zero_mul];rfl
  ·have:(o+b-1)/b=1:=((Int.ediv_emod_unique c (q:=1) (r:=o-1)).2 ⟨by omega,by omega,by omega⟩).1
   rw [this,Int.one_mul,A4 (by omega) (by omega),ES (by decide) (by omega),b3]
section
variable [Ap]
def R12 (d:D):Prop:=(∃x:Int,d=.row [.int 1,.int x])∨d=.row [.int 2]
theorem Q3 {v:D} {i q:Int} {n:Nat} {z:Int} (a:FO v) (hi:i=(n:Nat)) (c:n<len v) (d:i≠q):HD (.int (off v n)) v (.int i) (.int q) (.int z)=HD (.int (off v (n+1))) v (.int ((n+1:Nat):Int)) (.int q) (.int z):=by
 subst hi;have k12:kd v n=1∨kd v n=2→1≤bt v n∧bt v n≤32:=(a.ex n c).k12;have k10:kd v n=10→bt v n=2∨bt v n=4∨(8≤bt v n∧bt v n≤512∧ari .rem .i64 (bt v n) 8=0):=(a.ex n c).k10;have e:=Vz (v:=v) n;have few:=a.ft.few;rw [UL,ifT (by omega),ifF (by omega),ifF d,AL (by omega),off]
 have f:(cl v n 1).toInt=kd v n:=rfl;have b:(cl v n 2).toInt=bt v n:=rfl;rw [f,b];by_cases k1:kd v n=1
 ·have:=k12 (.inl k1);rw [ifT k1,A4 (by omega) (by omega),ES (by decide) (by omega),show stp (kd v n) (bt v n) (off v n)=(off v n+bt v n)%8 by unfold stp;rw [if_pos (.inl k1)]]
 ·rw [ifF k1];by_cases k2:kd v n=2
  ·have:=k12 (.inr k2);rw [ifT k2,A4 (by omega) (by omega),ES (by decide) (by omega),show stp (kd v n) (bt v n) (off v n)=(off v n+bt v n)%8 by unfold stp;rw [if_pos (.inr k2)]]
  ·rw [ifF k2];by_cases k3:kd v n=10
   ·have b:=k10 k3;rw [ifT k3,ifF (by omega),eT e b,k3]
   ·rw [ifF k3,show stp (kd v n) (bt v n) (off v n)=0 by unfold stp;rw [if_neg (by omega),if_neg k3]]
theorem W5 {v:D} {q z:Int} (a:FO v):∀k n,n+k=len v→R12 (HD (.int (off v n)) v (.int (n:Nat)) (.int q) (.int z))
 |0,n,h=>by
  have:n=len v:=h;subst this;rw [UL,ifF (by omega)]
  exact qc (.inl ⟨_,rfl⟩) (.inr rfl)
 |k+1,n,h=>by
  by_cases b:(n:Int)=q
  ·rw [UL,ifT (by omega),ifF (by omega),ifT b];exact .inl ⟨_,rfl⟩
  ·rw [Q3 a rfl (by omega) b];exact W5 a k (n+1) (by omega)
theorem dL {v:D} {q z:Int} (a:FO v):R12 (Da (.int q) (.int z) v):=by
 rw [ey];exact W5 a (len v) 0 (by omega)
theorem YH {v:D} {q:Nat} {z:Int} (a:FO v) (c:q≤len v):Da (.int (q:Nat)) (.int z) v=.row [.int 1,.int (off v q)]:=by
 rw [ey]
 have b:∀k n,n+k=q→HD (.int (off v n)) v (.int (n:Nat)) (.int (q:Nat)) (.int z)=.row [.int 1,.int (off v q)]:=by
  intro k
  induction k with
  |zero=>
   intro n h;have:n=q:=h;subst this;rw [UL];by_cases d:n<len v
   ·rw [ifT (by omega),ifF (by omega),ifT rfl]
   ·rw [ifF (by omega),ifT (by omega)]
  |succ k ih=>
   intro n h;rw [Q3 a rfl (by omega) (by omega)]
   exact ih (n+1) (by omega)
 exact b q 0 (by omega)
theorem S8 {v:D} {i:Nat} {o:Int} (a:FO v) (hi:i≤len v):IsB (Ex v (.int (i:Nat)) (.int o)):=by
 have few:=a.ft.few;rw [th,Xg (by omega)]
 refine (?_:IsB (cond (decide ((i:Int)=len v)) _ (cond _ _ (cond _ (cond _ (cond _ (cond _ (cond _ (cond (decide ((sl (Da (.int 0) (.int 0) v) 0).toInt=1)) _ _) _) (cond _ (cond (decide ((sl (Da (.int (fld v (cl v i 11))) (.int 0) v) 0).toInt=1)) _ _) _)) _) _) _))))
 have t1:∀(q:Int),IsB (cond (decide ((sl (Da (.int q) (.int 0) v) 0).toInt=1)) (cond (decide ((sl (Da (.int q) (.int 0) v) 1).toInt=0)) (.row [.int 1,(.bool false)]) (.row [.int 1,(.bool true)])) (cond (decide ((sl (Da (.int q) (.int 0) v) 0).toInt=2)) (.row [.int 1,(.bool false)]) (.row []))):=fun q=>by
  rcases dL (q:=q) (z:=0) a with ⟨x,g⟩|g
  ·rw [g];exact qT rfl (qc ⟨_,rfl⟩ ⟨_,rfl⟩)
  ·rw [g];exact qF (by show ¬(2:Int)=1;decide) (qT rfl ⟨_,rfl⟩)
 by_cases h:(i:Int)=len v
 ·exact qT h ⟨_,rfl⟩
 ·refine qF h (qF (by omega) (qT (by omega) (qc (qT rfl (qc (qc (t1 _) ⟨_,rfl⟩) (qc (t1 _) ⟨_,rfl⟩))) ?_)))
  have t2:IsB (cond (decide ((sl (.row [.int 1,.int (fld v (cl v i 11))]) 0).toInt=1)) (cond (decide ((sl (.row [.int 1,.int (fld v (cl v i 11))]) 1).toInt<0)) (.row [.int 1,(.bool false)]) (.row [.int 1,(.bool false)])) (.row [])):=qT rfl (qc ⟨_,rfl⟩ ⟨_,rfl⟩);exact qc (qc ⟨_,rfl⟩ t2) (qc (qc ⟨_,rfl⟩ t2) (qc (qc ⟨_,rfl⟩ t2) ⟨_,rfl⟩))
def R26 (d:D):Prop:=(∃a b:Int,d=.row [.int 1,.int a,.int b,.bool true])∨d=.row [.int 2,.bool false]
theorem YF {v nm:D} {a b c z:Int} (d:FO v):∀k n (t:Bool) (o:Int),n+k=len v→0≤o∧o≤7→R26 (DZ (.int o) v (.int (n:Nat)) (.int a) (.int b) (.int c) (.bool t) (.int z) nm v)
 |0,n,t,o,h,f=>by
  have:n=len v:=h;subst this;obtain ⟨x,g⟩:=S8 (i:=len v) (o:=o) d (L1 _);rw [N5,ifF (by omega),g]
  refine qT rfl ?_;cases x with
  |true=>
   refine (?_:R26 (cond true _ _));rw [vx];exact qc (.inl ⟨_,_,rfl⟩) (.inl ⟨_,_,rfl⟩)
  |false=>exact .inr rfl
 |k+1,n,t,o,h,f=>by
  have few:=d.ft.few;have k12:kd v n=1∨kd v n=2→1≤bt v n∧bt v n≤32:=(d.ex n (by omega)).k12
  have k10:kd v n=10→bt v n=2∨bt v n=4∨(8≤bt v n∧bt v n≤512∧ari .rem .i64 (bt v n) 8=0):=(d.ex n (by omega)).k10
  obtain ⟨x,g⟩:=S8 (i:=n) (o:=o) d (by omega)
  rw [N5,ifT (by omega),ifF (by omega),g,AL (by omega)]
  refine qT rfl ?_;cases x with
  |true=>
   refine (?_:R26 (cond true _ _));rw [vx];exact qc (.inl ⟨_,_,rfl⟩) (.inl ⟨_,_,rfl⟩)
  |false=>
   refine (?_:R26 (cond false _ (cond (decide (kd v n=1)) (DZ _ _ _ _ _ _ (.bool false) _ _ _) (cond (decide (kd v n=2)) (DZ _ _ _ _ _ _ (.bool false) _ _ _) (cond (decide (kd v n=10)) (cond (decide (bt v n=0)) _ (DZ _ _ _ _ _ _ (.bool false) _ _ _)) (DZ _ _ _ _ _ _ (.bool false) _ _ _))))));rw [lp];have nx:∀e,0≤e∧e≤7→R26 (DZ (.int e) v (.int ((n+1:Nat):Int)) (.int a) (.int b) (.int c) (.bool false) (.int z) nm v):=fun e j=>YF d k (n+1) false e (by omega) j
   have l:kd v n=1∨kd v n=2→ari .rem .i64 (IntKind.wrap .i64 (o+bt v n)) 8=(o+bt v n)%8:=fun m=>by
    have:=k12 m;rw [A4 (by omega) (by omega),ES (by decide) (by omega)]
   by_cases k1:kd v n=1
   ·refine qT k1 ?_;show R26 (DZ (.int (ari .rem .i64 (IntKind.wrap .i64 (o+bt v n)) 8)) _ _ _ _ _ _ _ _ _);rw [l (.inl k1)];exact nx _ (by omega)
   ·refine qF k1 ?_;by_cases k2:kd v n=2
    ·refine qT k2 ?_;show R26 (DZ (.int (ari .rem .i64 (IntKind.wrap .i64 (o+bt v n)) 8)) _ _ _ _ _ _ _ _ _);rw [l (.inr k2)];exact nx _ (by omega)
    ·refine qF k2 ?_;by_cases k3:kd v n=10
     ·have p:bt v n=2∨bt v n=4∨(8≤bt v n∧bt v n≤512∧ari .rem .i64 (bt v n) 8=0):=k10 k3;refine qT k3 (qF (by omega) ?_)
      show R26 (DZ (.int (ari .rem .i64 (IntKind.wrap .i64 ((ari .quo .i64 (IntKind.wrap .i64 ((IntKind.wrap .i64 (o+bt v n))-1)) (bt v n))*(bt v n))) 8)) _ _ _ _ _ _ _ _ _);rw [eT f p];exact nx _ (Vy f)
     ·exact qF k3 (nx 0 (by omega))
theorem Fi {v nm:D} {a b c z:Int} {t:Bool} (d:FO v):R26 (DW (.int a) (.int b) (.int c) (.bool t) (.int z) nm v v):=by
 rw [Yc];exact YF d (len v) 0 t 0 (by omega) (by omega)
end
end Mx
namespace Mx
open Go Go.AE
section
variable [Ap]
def Al (ms:D):Prop:=∀i:Nat,i<len ms→DW (.int 0) (.int 0) (.int 0) (.bool false) (.int (i:Nat)) (cl ms (i:Nat) 0) (cl ms (i:Nat) 1) (cl ms (i:Nat) 1)=.row [.int 2,.bool false]
def Q26 (c d:D):Prop:=(¬Al c∧∃a b:Int,d=.row [.int 1,.int a,.int b,.int 12,.bool true])∨(Al c∧d=.row [.int 1,.int 0,.int 0,.int 0,.bool false])
theorem n21:¬(sl (.row [.int 2,.bool false]) 0).toInt=1:=by show ¬(2:Int)=1;decide
theorem Ph {F:D} {p q:Int} (h:F=.row [.int 2,.bool false]) (g:F=.row [.int 1,.int p,.int q,.bool true]):False:=by rw [h] at g;cases g
theorem ae {v0 d j:D} (l:Et v0 d j=.row [.int 1,.int 0,.int 0,.int 0,.bool false]) (x:len d≤9) (u:∀m:Nat,m<len d→FO (cl d m 1)):Q26 d (So v0 d j):=by
 by_cases c0:(0:Int)<len d
 ·rcases Fi (nm:=cl d 0 0) (a:=0) (b:=0) (c:=0) (z:=0) (t:=false) (u 0 (by omega)) with ⟨p,q,e⟩|e
  ·rw [C7 v0 d j l e rfl rfl rfl rfl rfl rfl rfl rfl rfl];refine qT rfl ?_;refine (?_:Q26 d (cond false _ _));rw [lp];exact qT c0 (qT rfl (.inl ⟨fun h=>Ph (h 0 (by omega)) e,_,_,rfl⟩))
  ·by_cases c1:(1:Int)<len d
   ·rcases Fi (nm:=cl d 1 0) (a:=0) (b:=0) (c:=0) (z:=1) (t:=false) (u 1 (by omega)) with ⟨p,q,f⟩|f
    ·rw [C7 v0 d j l e f rfl rfl rfl rfl rfl rfl rfl rfl];refine qT rfl ?_;refine (?_:Q26 d (cond false _ _));rw [lp];exact qT c0 (qF n21 (qT rfl (qT c1 (qT rfl (.inl ⟨fun h=>Ph (h 1 (by omega)) f,_,_,rfl⟩)))))
    ·by_cases c2:(2:Int)<len d
     ·rcases Fi (nm:=cl d 2 0) (a:=0) (b:=0) (c:=0) (z:=2) (t:=false) (u 2 (by omega)) with ⟨p,q,g⟩|g
      ·rw [C7 v0 d j l e f g rfl rfl rfl rfl rfl rfl rfl];refine qT rfl ?_;refine (?_:Q26 d (cond false _ _));rw [lp];exact qT c0 (qF n21 (qT rfl (qT c1 (qF n21 (qT rfl (qT c2 (qT rfl (.inl ⟨fun h=>Ph (h 2 (by omega)) g,_,_,rfl⟩))))))))
      ·by_cases c3:(3:Int)<len d
       ·rcases Fi (nm:=cl d 3 0) (a:=0) (b:=0) (c:=0) (z:=3) (t:=false) (u 3 (by omega)) with ⟨p,q,k⟩|k
        ·rw [C7 v0 d j l e f g k rfl rfl rfl rfl rfl rfl];refine qT rfl ?_;refine (?_:Q26 d (cond false _ _));rw [lp];exact qT c0 (qF n21 (qT rfl (qT c1 (qF n21 (qT rfl (qT c2 (qF n21 (qT rfl (qT c3 (qT rfl (.inl ⟨fun h=>Ph (h 3 (by omega)) k,_,_,rfl⟩)))))))))))
        ·by_cases c4:(4:Int)<len d
         ·rcases Fi (nm:=cl d 4 0) (a:=0) (b:=0) (c:=0) (z:=4) (t:=false) (u 4 (by omega)) with ⟨p,q,o⟩|o
          ·rw [C7 v0 d j l e f g k o rfl rfl rfl rfl rfl];refine qT rfl ?_;refine (?_:Q26 d (cond false _ _));rw [lp];exact qT c0 (qF n21 (qT rfl (qT c1 (qF n21 (qT rfl (qT c2 (qF n21 (qT rfl (qT c3 (qF n21 (qT rfl (qT c4 (qT rfl (.inl ⟨fun h=>Ph (h 4 (by omega)) o,_,_,rfl⟩))))))))))))))
          ·by_cases c5:(5:Int)<len d
           ·rcases Fi (nm:=cl d 5 0) (a:=0) (b:=0) (c:=0) (z:=5) (t:=false) (u 5 (by omega)) with ⟨p,q,r⟩|r
            ·rw [C7 v0 d j l e f g k o r rfl rfl rfl rfl];refine qT rfl ?_;refine (?_:Q26 d (cond false _ _));rw [lp];exact qT c0 (qF n21 (qT rfl (qT c1 (qF n21 (qT rfl (qT c2 (qF n21 (qT rfl (qT c3 (qF n21 (qT rfl (qT c4 (qF n21 (qT rfl (qT c5 (qT rfl (.inl ⟨fun h=>Ph (h 5 (by omega)) r,_,_,rfl⟩)))))))))))))))))
            ·by_cases c6:(6:Int)<len d
             ·rcases Fi (nm:=cl d 6 0) (a:=0) (b:=0) (c:=0) (z:=6) (t:=false) (u 6 (by omega)) with ⟨p,q,s⟩|s
              ·rw [C7 v0 d j l e f g k o r s rfl rfl rfl];refine qT rfl ?_;refine (?_:Q26 d (cond false _ _));rw [lp];exact qT c0 (qF n21 (qT rfl (qT c1 (qF n21 (qT rfl (qT c2 (qF n21 (qT rfl (qT c3 (qF n21 (qT rfl (qT c4 (qF n21 (qT rfl (qT c5 (qF n21 (qT rfl (qT c6 (qT rfl (.inl ⟨fun h=>Ph (h 6 (by omega)) s,_,_,rfl⟩))))))))))))))))))))
              ·by_cases c7:(7:Int)<len d
               ·rcases Fi (nm:=cl d 7 0) (a:=0) (b:=0) (c:=0) (z:=7) (t:=false) (u 7 (by omega)) with ⟨p,q,v⟩|v
                ·rw [C7 v0 d j l e f g k o r s v rfl rfl];refine qT rfl ?_;refine (?_:Q26 d (cond false _ _));rw [lp];exact qT c0 (qF n21 (qT rfl (qT c1 (qF n21 (qT rfl (qT c2 (qF n21 (qT rfl (qT c3 (qF n21 (qT rfl (qT c4 (qF n21 (qT rfl (qT c5 (qF n21 (qT rfl (qT c6 (qF n21 (qT rfl (qT c7 (qT rfl (.inl ⟨fun h=>Ph (h 7 (by omega)) v,_,_,rfl⟩)))))))))))))))))))))))
                ·by_cases c8:(8:Int)<len d
                 ·rcases Fi (nm:=cl d 8 0) (a:=0) (b:=0) (c:=0) (z:=8) (t:=false) (u 8 (by omega)) with ⟨p,q,w⟩|w
                  ·rw [C7 v0 d j l e f g k o r s v w rfl];refine qT rfl ?_;refine (?_:Q26 d (cond false _ _));rw [lp];exact qT c0 (qF n21 (qT rfl (qT c1 (qF n21 (qT rfl (qT c2 (qF n21 (qT rfl (qT c3 (qF n21 (qT rfl (qT c4 (qF n21 (qT rfl (qT c5 (qF n21 (qT rfl (qT c6 (qF n21 (qT rfl (qT c7 (qF n21 (qT rfl (qT c8 (qT rfl (.inl ⟨fun h=>Ph (h 8 (by omega)) w,_,_,rfl⟩))))))))))))))))))))))))))
                  ·have c9:¬(9:Int)<len d:=by omega
                   rw [C7 v0 d j l e f g k o r s v w rfl];refine qT rfl ?_;refine (?_:Q26 d (cond false _ _));rw [lp];exact qT c0 (qF n21 (qT rfl (qT c1 (qF n21 (qT rfl (qT c2 (qF n21 (qT rfl (qT c3 (qF n21 (qT rfl (qT c4 (qF n21 (qT rfl (qT c5 (qF n21 (qT rfl (qT c6 (qF n21 (qT rfl (qT c7 (qF n21 (qT rfl (qT c8 (qF n21 (qT rfl (qF c9 (.inr ⟨fun i hi=>match i,hi with|0,_=>e|1,_=>f|2,_=>g|3,_=>k|4,_=>o|5,_=>r|6,_=>s|7,_=>v|8,_=>w|n+9,h=>absurd h (by omega),rfl⟩))))))))))))))))))))))))))))
                 ·rw [C7 v0 d j l e f g k o r s v rfl rfl];refine qT rfl ?_;refine (?_:Q26 d (cond false _ _));rw [lp];exact qT c0 (qF n21 (qT rfl (qT c1 (qF n21 (qT rfl (qT c2 (qF n21 (qT rfl (qT c3 (qF n21 (qT rfl (qT c4 (qF n21 (qT rfl (qT c5 (qF n21 (qT rfl (qT c6 (qF n21 (qT rfl (qT c7 (qF n21 (qT rfl (qF c8 (.inr ⟨fun i hi=>match i,hi with|0,_=>e|1,_=>f|2,_=>g|3,_=>k|4,_=>o|5,_=>r|6,_=>s|7,_=>v|n+8,h=>absurd h (by omega),rfl⟩)))))))))))))))))))))))))
               ·rw [C7 v0 d j l e f g k o r s rfl rfl rfl];refine qT rfl ?_;refine (?_:Q26 d (cond false _ _));rw [lp];exact qT c0 (qF n21 (qT rfl (qT c1 (qF n21 (qT rfl (qT c2 (qF n21 (qT rfl (qT c3 (qF n21 (qT rfl (qT c4 (qF n21 (qT rfl (qT c5 (qF n21 (qT rfl (qT c6 (qF n21 (qT rfl (qF c7 (.inr ⟨fun i hi=>match i,hi with|0,_=>e|1,_=>f|2,_=>g|3,_=>k|4,_=>o|5,_=>r|6,_=>s|n+7,h=>absurd h (by omega),rfl⟩))))))))))))))))))))))
             ·rw [C7 v0 d j l e f g k o r rfl rfl rfl rfl];refine qT rfl ?_;refine (?_:Q26 d (cond false _ _));rw [lp];exact qT c0 (qF n21 (qT rfl (qT c1 (qF n21 (qT rfl (qT c2 (qF n21 (qT rfl (qT c3 (qF n21 (qT rfl (qT c4 (qF n21 (qT rfl (qT c5 (qF n21 (qT rfl (qF c6 (.inr ⟨fun i hi=>match i,hi with|0,_=>e|1,_=>f|2,_=>g|3,_=>k|4,_=>o|5,_=>r|n+6,h=>absurd h (by omega),rfl⟩)))))))))))))))))))
           ·rw [C7 v0 d j l e f g k o rfl rfl rfl rfl rfl];refine qT rfl ?_;refine (?_:Q26 d (cond false _ _));rw [lp];exact qT c0 (qF n21 (qT rfl (qT c1 (qF n21 (qT rfl (qT c2 (qF n21 (qT rfl (qT c3 (qF n21 (qT rfl (qT c4 (qF n21 (qT rfl (qF c5 (.inr ⟨fun i hi=>match i,hi with|0,_=>e|1,_=>f|2,_=>g|3,_=>k|4,_=>o|n+5,h=>absurd h (by omega),rfl⟩))))))))))))))))
         ·rw [C7 v0 d j l e f g k rfl rfl rfl rfl rfl rfl];refine qT rfl ?_;refine (?_:Q26 d (cond false _ _));rw [lp];exact qT c0 (qF n21 (qT rfl (qT c1 (qF n21 (qT rfl (qT c2 (qF n21 (qT rfl (qT c3 (qF n21 (qT rfl (qF c4 (.inr ⟨fun i hi=>match i,hi with|0,_=>e|1,_=>f|2,_=>g|3,_=>k|n+4,h=>absurd h (by omega),rfl⟩)))))))))))))
       ·rw [C7 v0 d j l e f g rfl rfl rfl rfl rfl rfl rfl];refine qT rfl ?_;refine (?_:Q26 d (cond false _ _));rw [lp];exact qT c0 (qF n21 (qT rfl (qT c1 (qF n21 (qT rfl (qT c2 (qF n21 (qT rfl (qF c3 (.inr ⟨fun i hi=>match i,hi with|0,_=>e|1,_=>f|2,_=>g|n+3,h=>absurd h (by omega),rfl⟩))))))))))
     ·rw [C7 v0 d j l e f rfl rfl rfl rfl rfl rfl rfl rfl];refine qT rfl ?_;refine (?_:Q26 d (cond false _ _));rw [lp];exact qT c0 (qF n21 (qT rfl (qT c1 (qF n21 (qT rfl (qF c2 (.inr ⟨fun i hi=>match i,hi with|0,_=>e|1,_=>f|n+2,h=>absurd h (by omega),rfl⟩)))))))
   ·rw [C7 v0 d j l e rfl rfl rfl rfl rfl rfl rfl rfl rfl];refine qT rfl ?_;refine (?_:Q26 d (cond false _ _));rw [lp];exact qT c0 (qF n21 (qT rfl (qF c1 (.inr ⟨fun i hi=>match i,hi with|0,_=>e|n+1,h=>absurd h (by omega),rfl⟩))))
 ·rw [C7 v0 d j l rfl rfl rfl rfl rfl rfl rfl rfl rfl rfl];refine qT rfl ?_;refine (?_:Q26 d (cond false _ _));rw [lp];exact qF c0 (.inr ⟨fun i hi=>match i,hi with|n+0,h=>absurd h (by omega),rfl⟩)
def Ok (v0 ms st:D):Prop:=∃x y M N a,Do v0 ms st=.row [.int 2,.int 0,.int 0,.int 0,.bool false,v0,ms,st,.int (-1),.int (-1),x,y,M,N]∧Good ms st M N a
theorem LA {v0 a st x y M N:D} (h:Do v0 a st=.row [.int 2,.int 0,.int 0,.int 0,.bool false,v0,a,st,.int (-1),.int (-1),x,y,M,N]):Et v0 a st=.row [.int 1,.int 0,.int 0,.int 0,.bool false]:=by
 rw [fc,h];exact (ifF (by show ¬(2:Int)=1;decide)).trans (ifT rfl)
theorem ka {v0 v1 v2:D} (d:len v1≤9) (hv:∀m:Nat,m<len v1→FT (cl v1 m 1)):EH v0 v1 v2=.row [.int 1,.bool false]∨(EH v0 v1 v2=.row [.int 1,.bool true]∧Ok v0 v1 v2∧Al v1):=by
 rw [eI];rcases io (v0:=v0) (st:=v2) (ms:=v1) (by omega) hv with ⟨a,b,c,g⟩|⟨g,x,y,M,N,f,i,h⟩
 ·have:So v0 v1 v2=.row [.int 1,.int a,.int b,.int c,.bool true]:=by rw [C7 v0 v1 v2 g rfl rfl rfl rfl rfl rfl rfl rfl rfl rfl];rfl
  rw [this];exact .inl rfl
 ·rcases ae g d (fun m j=>h.1.fo m j) with ⟨_,a,b,e⟩|⟨k,e⟩
  ·rw [e];exact .inl rfl
  ·rw [e];exact .inr ⟨rfl,⟨x,y,M,N,f,i,h⟩,k⟩
theorem br {v0 v1 v2:D} (a:len v1≤9) (h:Ok v0 v1 v2) (b:Al v1):EH v0 v1 v2=.row [.int 1,.bool true]:=by
 obtain ⟨x,y,M,N,g,c,h⟩:=h;rcases ae (LA c) a (fun m d=>h.1.fo m d) with ⟨f,_⟩|⟨_,e⟩
 ·exact absurd b f
 ·rw [eI,e];rfl
def Sm (a:D) (n:Nat):Prop:=∀m:Nat,m<n→len (cl a m 1)≤16∧∀k:Nat,k<len (cl a m 1)→len (cl (cl a m 1) k 12)≤10∧len (cl (cl a m 1) k 8)≤6
theorem eW {v0 v1 v2:D} (g:len v1≤9):∀k i,i+k=len v1→Sm v1 i→Yo (.int (i:Nat)) v0 v1 v2=.row [.int 1,.bool false]∨(Yo (.int (i:Nat)) v0 v1 v2=.row [.int 1,.bool true]∧Sm v1 (len v1))
 |0,i,h,d=>by
  have:i=len v1:=h;subst this;rw [pS,ifF (by omega)]
  exact .inr ⟨rfl,d⟩
 |k+1,i,h,d=>by
  rw [pS,ifT (by omega),ifF (by omega)]
  by_cases c1:16<(len (cl v1 i 1):Int)
  ·rw [ifT c1];exact .inl rfl
  ·rw [ifF c1];by_cases c2:100<(Cx (cl v1 i 0):Int)
   ·rw [ifT c2];exact .inl rfl
   ·rw [ifF c2]
    have a:∀n j,j+n=len (cl v1 i 1)→(∀k:Nat,k<j→len (cl (cl v1 i 1) k 12)≤10∧len (cl (cl v1 i 1) k 8)≤6)→
      Ys (.int (i:Nat)) (.int (j:Nat)) v0 v1 v2 (cl v1 i 0) (cl v1 i 1)=.row [.int 1,.bool false]∨(Ys (.int (i:Nat)) (.int (j:Nat)) v0 v1 v2 (cl v1 i 0) (cl v1 i 1)=.row [.int 1,.bool true]∧Sm v1 (len v1)):=by
     intro n
     induction n with
     |zero=>
      intro j hj e;have:j=len (cl v1 i 1):=hj;rw [pT,ifF (by omega),AL (by omega)]
      refine eW g k (i+1) (by omega) fun m l=>?_
      rcases R2 m i with b|b
      ·exact d m b
      ·have:m=i:=by omega
       subst this;exact ⟨by omega,fun q f=>e q (by omega)⟩
     |succ n ih=>
      intro j hj e;rw [pT,ifT (by omega),ifF (by omega),AL (by omega)]
      by_cases d1:100<(Cx (cl (cl v1 i 1) j 0):Int)
      ·rw [ifT d1];exact .inl rfl
      ·rw [ifF d1];by_cases d2:10<(len (cl (cl v1 i 1) j 12):Int)
       ·rw [ifT d2];exact .inl rfl
       ·rw [ifF d2];by_cases d3:6<(len (cl (cl v1 i 1) j 8):Int)
        ·rw [ifT d3];exact .inl rfl
        ·rw [ifF d3];refine ih (j+1) (by omega) fun q f=>?_
         rcases R2 q j with c|c
         ·exact e q c
         ·have:q=j:=by omega
          subst this;exact ⟨by omega,by omega⟩
    exact a (len (cl v1 i 1)) 0 (by omega) fun q f=>absurd f (gk _)
theorem pK {v0 v1 v2:D}:ZP v0 v1 v2=.row [.int 1,.bool false]∨(ZP v0 v1 v2=.row [.int 1,.bool true]∧len v1≤9∧Sm v1 (len v1)):=by
 rw [yT];by_cases c1:9<(len v1:Int)
 ·rw [ifT c1];exact .inl rfl
 ·rw [ifF c1];by_cases c2:100<(Cx v0:Int)
  ·rw [ifT c2];exact .inl rfl
  ·rw [ifF c2];by_cases c3:100<(Cx v2:Int)
   ·rw [ifT c3];exact .inl rfl
   ·rw [ifF c3];rcases eW (v0:=v0) (v2:=v2) (v1:=v1) (by omega) (len v1) 0 (by omega) (fun m a=>absurd a (gk _)) with g|⟨g,b⟩
    ·exact .inl g
    ·exact .inr ⟨g,by omega,b⟩
structure FK (v:D):Prop where
 i1:∀i:Nat,i<len v→∃n,cl v i 1=.int n
 i2:∀i:Nat,i<len v→∃n,cl v i 2=.int n
 b3:∀i:Nat,i<len v→∃n,cl v i 3=.bool n
 b4:∀i:Nat,i<len v→∃n,cl v i 4=.bool n
 i5:∀i:Nat,i<len v→∃n,cl v i 5=.int n
 i6:∀i:Nat,i<len v→∃n,cl v i 6=.int n
 i7:∀i:Nat,i<len v→∃n,cl v i 7=.int n
 i13:∀i:Nat,i<len v→∃n,cl v i 13=.int n
 i14:∀i:Nat,i<len v→∃n,cl v i 14=.int n
 nil8:∀i:Nat,i<len v→(cl v i 8).isNil=true→len (cl v i 8)=0
 case:∀i:Nat,i<len v→∀j:Nat,j<len (cl v i 12)→(∃n,cl (cl v i 12) j 0=.int n)∧∃n,cl (cl v i 12) j 1=.int n
end
end Mx
set_option maxRecDepth 4000
namespace Mx
open Go Go.AE
section
variable [Ap]
def Sh2 (M:D):Prop:=∀r∈M.rows,∃x v,r=.row [x,v]
theorem Sh2.shape {M:D} (h:Sh2 M):∀r∈M.rows,∃x l,r=.row (x::l):=fun r t=>by obtain ⟨x,n,e⟩:=h r t;exact ⟨x,_,e⟩
theorem Sh2.wd {M:D} (h:Sh2 M):Wd M 2:=fun r l=>by obtain ⟨x,n,e⟩:=h r l;exact ⟨_,e,rfl⟩
theorem Sh2.empty:Sh2 Ad:=fun r l=>by cases l
theorem Sh2.ad {M x v:D} (h:Sh2 M):Sh2 (AE.ad M (.row [x,v])):=fun r l=>(Tt l).elim (h r) fun e=>⟨_,_,e⟩
theorem fg {M k:D} (h:Sh2 M):mIx [.str] M (.row [k])<len M:=by
 rw [Cu h.shape];have:=D1 (p:=fun i=>D.strEq (cl M i 0) k) (k:=len M) (i:=0)
 omega
theorem eP {M k:D} (h:Sh2 M) (a:Kn M k):0≤mIx [.str] M (.row [k])∧D.strEq (cl M (mIx [.str] M (.row [k])) 0) k=true:=by
 unfold Kn at a;refine ⟨by omega,?_⟩
 rw [Cu h.shape] at a ⊢;have b:0≤fdG (fun i=>D.strEq (cl M i 0) k) (len M) 0:=by omega
 have c:=Fg b;rw [Int.toNat_of_nonneg b] at c;exact c
theorem Kn.congr {M a b:D} (h:Sh2 M) (r:D.strEq a b=true) (l:Kn M a):Kn M b:=by
 unfold Kn at l ⊢;rw [←Hf h.shape r];exact l
def lk (M k:D):Option D:=if mIx [.str] M (.row [k])<0 then none else some (cl M (mIx [.str] M (.row [k])) 1)
theorem GI {M a b:D} (h:Sh2 M) (c:D.strEq a b=true):lk M a=lk M b:=by unfold lk;rw [Hf h.shape c]
theorem OH {M k:D}:Kn M k↔lk M k≠none:=by
 unfold lk Kn;by_cases h:mIx [.str] M (.row [k])<0
 ·rw [if_pos h];exact ⟨fun a=>absurd h a,fun a=>absurd rfl a⟩
 ·rw [if_neg h];exact ⟨fun _ a=>(by cases a),fun _=>h⟩
theorem Ef {M k v:D} (h:lk M k=some v):¬mIx [.str] M (.row [k])<0∧cl M (mIx [.str] M (.row [k])) 1=v:=by
 unfold lk at h;by_cases c:mIx [.str] M (.row [k])<0
 ·rw [if_pos c] at h;cases h
 ·rw [if_neg c] at h;cases h;exact ⟨c,rfl⟩
theorem LB {M k:D} (h:lk M k=none):mIx [.str] M (.row [k])<0:=by
 unfold lk at h;by_cases c:mIx [.str] M (.row [k])<0
 ·exact c
 ·rw [if_neg c] at h;cases h
theorem HL {M x v k:D} (h:Sh2 M):lk (AE.ad M (.row [x,v])) k=match lk M k with|some u=>some u|none=>if D.strEq x k=true then some v else none:=by
 unfold lk;rw [Kb h.shape];have a:=fg (k:=k) h;by_cases c:mIx [.str] M (.row [k])<0
 ·rw [if_pos c,if_neg (show ¬0≤mIx [.str] M (.row [k]) by omega)]
  by_cases s:D.strEq x k=true
  ·rw [if_pos s,if_pos s,if_neg (by omega),EO (by omega),if_pos rfl];rfl
  ·rw [if_neg s,if_neg s,if_pos (by omega)]
 ·rw [if_neg c,if_pos (show 0≤mIx [.str] M (.row [k]) by omega),if_neg c,EO (by omega),if_neg (by omega)]
theorem Sh2.upd {M x:D} {i:Int} (h:Sh2 M):Sh2 (AE.upd M i 1 x):=by
 intro r l;obtain ⟨cs,e,t⟩:=Qf (x:=x) (i:=i) (j:=1) h.wd r l
 match cs,t with
 |[a,b],_=>exact ⟨a,b,e⟩
theorem dX {M x k:D} {i:Int} (h:Sh2 M) (a:0≤i) (b:i<len M):mIx [.str] (AE.upd M i 1 x) (.row [k])=mIx [.str] M (.row [k]):=by
 rw [Cu (h.upd (x:=x) (i:=i)).shape,Cu h.shape,EZ];refine C0 fun j _ hj=>?_
 rw [JX h.wd (by decide) a b (by omega),if_neg (fun c=>absurd c.2 (by decide))]
theorem Y3 {M x k v:D} (h:Sh2 M) (d:Kn M x):lk (AE.upd M (mIx [.str] M (.row [x])) 1 v) k=if D.strEq x k=true then some v else lk M k:=by
 obtain ⟨b,g⟩:=eP h d;have a:=fg (k:=x) h;unfold lk;rw [dX h b a];by_cases s:D.strEq x k=true
 ·rw [if_pos s,←Hf h.shape s,if_neg d,KM h.wd (by decide) b a]
 ·rw [if_neg s];by_cases c:mIx [.str] M (.row [k])<0
  ·rw [if_pos c,if_pos c]
  ·rw [if_neg c,if_neg c];have f:=eP h (k:=k) c;rw [WD h.wd (by decide) b a (by omega)]
   intro e;rw [e] at f;have i:=Db (by rw [A2];exact g) f.2
   exact s i
structure BT (M:D):Prop where
 sh:Sh2 M
 tr:∀k v,lk M k=some v→v=.bool true
theorem BT.ad {M x:D} (h:BT M) (t:¬Kn M x):BT (AE.ad M (.row [x,.bool true]))∧Kn (AE.ad M (.row [x,.bool true])) x∧(∀k,Kn M k→Kn (AE.ad M (.row [x,.bool true])) k)∧∀k,Kn (AE.ad M (.row [x,.bool true])) k→Kn M k∨D.strEq x k=true:=by
 refine ⟨⟨h.sh.ad,fun k v l=>?_⟩,?_,fun k l=>?_,fun k l=>?_⟩
 ·rw [HL h.sh] at l;cases r:lk M k with
  |some u=>rw [r] at l;cases l;exact h.tr k _ r
  |none=>
   rw [r] at l;simp only at l;split at l
   ·cases l;rfl
   ·cases l
 ·rw [OH,HL h.sh];cases lk M x with
  |some u=>simp
  |none=>simp [BW]
 ·rw [OH] at l ⊢;rw [HL h.sh];cases r:lk M k with
  |some u=>simp
  |none=>exact absurd r l
 ·rw [OH,HL h.sh] at l;rw [OH];cases r:lk M k with
  |some u=>exact .inl (by simp)
  |none=>
   rw [r] at l;simp only at l;by_cases s:D.strEq x k=true
   ·exact .inr s
   ·rw [if_neg s] at l;exact absurd rfl l
variable {ms:D} {dp:Nat→Int} {MM0:D}
def rfs (ms:D) (i:Nat):List D:=RF (fsI ms i) (len (fsI ms i))
inductive Rch (ms s:D):D→Prop
 |here {k:D}:D.strEq s k=true→Rch ms s k
 |next {i:Nat} {r k:D}:i<len ms→Rch ms s (nmI ms i)→r∈rfs ms i→D.strEq r k=true→Rch ms s k
theorem Rch.congr {ms s a b:D} (l:D.strEq a b=true):Rch ms s a→Rch ms s b
 |.here h=>.here (Db h l)
 |.next r t I J=>.next r t I (Db J l)
structure Gr (ms s:D) (A B:D):Prop where
 bt:BT B
 le:∀k,Kn A k→Kn B k
 up:∀k,Kn B k→Kn A k∨Rch ms s k
 cls:∀j,j<len ms→Kn B (nmI ms j)→¬Kn A (nmI ms j)→∀r∈rfs ms j,Kn B r
theorem Gr.refl {s A:D} (h:BT A):Gr ms s A A:=⟨h,fun _ h=>h,fun _ h=>.inl h,fun _ _ l r=>absurd l r⟩
theorem Gr.trans {s A B C:D} (h:Gr ms s A B) (k:Gr ms s B C):Gr ms s A C:=⟨k.bt,fun x l=>k.le x (h.le x l),fun x l=>(k.up x l).elim (h.up x) .inr,fun j hj I J r t=>by
 by_cases c:Kn B (nmI ms j)
 ·exact k.le r (h.cls j hj c J r t)
 ·exact k.cls j hj I c r t⟩
def Vs (ms s:D) (V:D→D→D) (n:Nat):Prop:=∀(nm A:D) (i:Nat),ixN ms (len ms) nm=(i:Nat)→i≤n→BT A→Rch ms s nm→∃B,V nm A=.row [.int 1,B]∧Gr ms s A B∧Kn B nm
def Rs (ms s:D) (R:D→D→D) (n:Nat):Prop:=∀(A l:D) (i:Nat),i≤n→i<len ms→l.rows=nms (rfs ms i)→BT A→(∀r∈rfs ms i,Rch ms s r)→∃B,R A l=.row [.int 1,B]∧Gr ms s A B∧∀r∈rfs ms i,Kn B r
theorem Fv {n:Nat} {a b:D} (h:D.strEq a b=true):ixN ms n a=ixN ms n b:=C0 fun j _ _=>by rw [A2,Jk h,A2]
theorem JN {n:Nat} {M:D} (h:GP ms n M dp) {j:Nat} (hj:j<n):ixN ms n (nmI ms j)=j:=by
 have a:=Mg (p:=fun i=>D.strEq (nmI ms i) (nmI ms j)) (k:=n) (i:=0) (j:=j) (by omega) (by omega) BW
 have c:=Fg a.1;obtain ⟨m,e⟩:=vv a.1;unfold ixN;rw [e] at a c ⊢;rcases R2 m j with b|f
 ·have g:=h.dist m j b hj;have d:D.strEq (nmI ms m) (nmI ms j)=true:=c;rw [g] at d;cases d
 ·congr 1;omega
theorem P9 {n:Nat} {k:D} {i:Nat} (h:ixN ms n k=(i:Nat)):i<n∧D.strEq (nmI ms i) k=true:=by
 unfold ixN at h;have a:=Fg (p:=fun i=>D.strEq (nmI ms i) k) (k:=n) (i:=0) (by omega)
 have b:=D1 (p:=fun i=>D.strEq (nmI ms i) k) (k:=n) (i:=0)
 rw [h] at a b;exact ⟨by omega,a⟩
theorem GP.ref {n:Nat} {M:D} (h:GP ms n M dp) {i:Nat} (hi:i<n) {r:D} (t:r∈rfs ms i):∃j:Nat,j<i∧ixN ms n r=(j:Nat)∧D.strEq (nmI ms j) r=true∧dp j<dp i:=by
 obtain ⟨j,hj,l,I⟩:=h.refs i hi r t;refine ⟨j,hj,?_,l,I⟩;rw [←Fv l];exact JN h (by omega)
section
variable (a2 st:D) {sR:D}
theorem Mh {ms k:D} (h:len ms≤1000000):Ax ms k=.row [.int 1,.int (ixN ms (len ms) k)]:=gj h
theorem DK {R:D→D→D→D→D→D} {n:Nat} {M:D} (z:GP ms (len ms) M dp) (N:len ms≤9) (hR:Rs ms sR (fun A l=>R A a2 ms st l) n):Vs ms sR (fun nm A=>VT R nm A a2 ms st) n:=by
 intro nm A i hi p s C;obtain ⟨b,t⟩:=P9 hi;show ∃B,VT R nm A a2 ms st=_∧_
 unfold VT;rw [Mh (by omega),hi]
 by_cases a:Kn A nm
 ·have f:=a;rw [OH] at f
  obtain ⟨v,hv⟩:∃v,lk A nm=some v:=by cases h:lk A nm with
   |none=>exact absurd h f
   |some v=>exact ⟨v,rfl⟩
  obtain ⟨E,F⟩:=Ef hv;rw [ifF E,F,s.tr nm v hv];exact ⟨A,rfl,.refl s,a⟩
 ·have u:mIx [.str] A (.row [nm])<0:=Int.not_le.1 fun h=>a (by unfold Kn;omega)
  obtain ⟨G,H,b3,b4⟩:=s.ad a;obtain ⟨l,g,d⟩:=Kg (v0:=cl ms i 0) (z.fo i b).ft;have w:Rch ms sR (nmI ms i):=C.congr (by rw [A2];exact t)
  obtain ⟨B,I,m,x⟩:=hR (ad A (.row [nm,.bool true])) l i p b d G fun r x=>.next b w x BW
  rw [ifT u,AC];refine (?_:∃B,cond (decide ((i:Int)<0)) _ (cond (decide ((i:Int)<len ms)) (cond (decide ((sl (AK (cl ms i 0) (cl ms i 1)) 0).toInt=1)) (cond (decide ((sl (R (ad A (.row [nm,(.bool true)])) a2 ms st (sl (AK (cl ms i 0) (cl ms i 1)) 1)) 0).toInt=1)) (D.row [D.int 1,(sl (R (ad A (.row [nm,(.bool true)])) a2 ms st (sl (AK (cl ms i 0) (cl ms i 1)) 1)) 1)]) _) _) _)=_∧_)
  rw [ifF (by omega),ifT (by omega)]
  have e:AK (cl ms i 0) (cl ms i 1)=.row [.int 1,l]:=g;have y:R (ad A (.row [nm,(.bool true)])) a2 ms st (sl (.row [.int 1,l]) 1)=.row [.int 1,B]:=I;rw [e,AC,y,AC];refine ⟨B,rfl,⟨m.bt,fun k a=>m.le k (b3 k a),fun k a=>(m.up k a).elim (fun q=>(b4 k q).imp id fun q=>C.congr q) .inr,fun j hj J K r o=>?_⟩,m.le nm H⟩
  by_cases c:Kn (ad A (.row [nm,.bool true])) (nmI ms j)
  ·rcases b4 _ c with q|q
   ·exact absurd q K
   ·have:j=i:=by
     have L:=JN z hj;rw [←Fv q,hi] at L;omega
    subst this;exact x r o
  ·exact m.cls j hj J c r o
theorem DJ {V:D→D→D→D→D→D} {R1:D→D→D→D→D→D→D} {n:Nat} {M:D} (s:GP ms (len ms) M dp) (X:len ms≤9) (hV:Vs ms sR (fun nm A=>V nm A a2 ms st) n)
  (g:∀y i E F G H,R1 y (.int i) E F G H=RT V R1 y i E F G H):Rs ms sR (fun A l=>R1 l (.int 0) A a2 ms st) (n+1):=by
 intro A l i K c b L N;have O:=Ii (s.fo i c).ft _ (L1 _);have few:=(s.fo i c).ft.few;have I:len l=(rfs ms i).length:=by show l.rows.length=_;rw [b];simp [nms]
 have P:(rfs ms i).length≤160:=by unfold rfs;omega
 have d:∀j (hj:j<(rfs ms i).length),cl l j 0=(rfs ms i)[j]:=fun j hj=>Mk b hj
 have Q:∀k q (B:D),q+k=len l→Gr ms sR A B→(∀j (hj:j<(rfs ms i).length),j<q→Kn B (rfs ms i)[j])→∃C,R1 l (.int (q:Nat)) B a2 ms st=.row [.int 1,C]∧Gr ms sR A C∧∀r∈rfs ms i,Kn C r:=by
  intro k
  induction k with
  |zero=>
   intro q B h f m;rw [g];unfold RT;rw [ifF (by omega)]
   refine ⟨B,rfl,f,fun r R=>?_⟩
   obtain ⟨j,hj,rfl⟩:=ue R;exact m j hj (by omega)
  |succ k ih=>
   intro q B h f m;have t:q<(rfs ms i).length:=by omega
   obtain ⟨z,S,u,_⟩:=Mi (l:=l) (i:=q) (by omega) (by omega)
   rw [g];unfold RT;rw [ifT (by omega),ifF (by omega),ifF (by omega),S,AL (by omega),AC]
   refine (?_:∃C,cond (decide (z<0)) _ _=_∧_)
   by_cases e:z<0
   ·rw [ifT e,d q t];obtain ⟨j,hj,v,_,_⟩:=s.ref c (r:=(rfs ms i)[q]) (zF t);obtain ⟨C,T,o,U⟩:=hV (rfs ms i)[q] B j v (by omega) f.bt (N _ (zF t))
    have w:V (rfs ms i)[q] B a2 ms st=.row [.int 1,C]:=T;rw [w,AC];refine ih (q+1) C (by omega) (f.trans o) fun j hj x=>?_
    rcases R2 j q with a|a
    ·exact o.le _ (m j hj a)
    ·have:j=q:=by omega
     subst this;exact U
   ·rw [ifF e];refine ih (q+1) B (by omega) f fun j hj x=>?_
    rcases R2 j q with a|a
    ·exact m j hj a
    ·have:j=q:=by omega
     subst this;obtain ⟨p,W,J⟩:=u e;rw [d j hj,d p (by omega)] at J
     exact (m p (by omega) W).congr f.bt.sh (by rw [A2];exact J)
 exact Q (len l) 0 A (by omega) (.refl L) fun j _ hj=>absurd hj (gk _)
theorem GD {n:Nat} {M:D} (a:GP ms n M dp) (h:0<n):rfs ms 0=[]:=by
 cases b:rfs ms 0 with
 |nil=>rfl
 |cons r t=>
  obtain ⟨j,hj,_⟩:=a.ref h (r:=r) (by rw [b];exact zC)
  exact absurd hj (gk _)
theorem yr {M:D} (n:GP ms (len ms) M dp) (K:len ms≤9):Vs ms sR (fun nm A=>QE nm A a2 ms st) 0:=by
 intro nm A i hi t o u;obtain ⟨d,w⟩:=P9 hi;have x:i=0:=by omega
 subst x;show ∃B,QE nm A a2 ms st=_∧_
 rw [ub,Mh (by omega),hi]
 by_cases c:Kn A nm
 ·have e:=c;rw [OH] at e
  obtain ⟨v,hv⟩:∃v,lk A nm=some v:=by cases h:lk A nm with
   |none=>exact absurd h e
   |some v=>exact ⟨v,rfl⟩
  obtain ⟨y,z⟩:=Ef hv;rw [ifF y,z,o.tr nm v hv];exact ⟨A,rfl,.refl o,c⟩
 ·have p:mIx [.str] A (.row [nm])<0:=Int.not_le.1 fun h=>c (by unfold Kn;omega)
  obtain ⟨C,E,b3,b4⟩:=o.ad c;obtain ⟨l,f,a⟩:=Kg (v0:=cl ms ((0:Nat):Int) 0) (n.fo 0 d).ft;have g:RF (fsI ms 0) (len (fsI ms 0))=[]:=GD n d;have F:len l=0:=by show l.rows.length=0;rw [a];rw [g];rfl
  have G:KD (ad A (.row [nm,(.bool true)])) a2 ms st l=.row [.int 1]:=by rw [sk,uv,ifF (by omega)]
  rw [ifT p,AC];refine (?_:∃B,cond (decide (((0:Nat):Int)<0)) _ (cond (decide (((0:Nat):Int)<len ms)) (cond (decide ((sl (AK (cl ms ((0:Nat):Int) 0) (cl ms ((0:Nat):Int) 1)) 0).toInt=1)) (cond (decide ((sl (KD (ad A (.row [nm,(.bool true)])) a2 ms st (sl (AK (cl ms ((0:Nat):Int) 0) (cl ms ((0:Nat):Int) 1)) 1)) 0).toInt=1)) (D.row [D.int 1,ad A (.row [nm,(.bool true)])]) _) _) _)=_∧_)
  rw [ifF (by omega),ifT (by omega)]
  have b:AK (cl ms ((0:Nat):Int) 0) (cl ms ((0:Nat):Int) 1)=.row [.int 1,l]:=f;have s:KD (ad A (.row [nm,(.bool true)])) a2 ms st (sl (.row [.int 1,l]) 1)=.row [.int 1]:=G;rw [b,AC,s,AC];refine ⟨_,rfl,⟨C,b3,fun k c=>(b4 k c).imp id fun q=>u.congr q,fun j hj H I r m=>?_⟩,E⟩
  rcases b4 _ H with q|q
  ·exact absurd q I
  ·have:j=0:=by
    have J:=JN n hj;rw [←Fv q,hi] at J;omega
   subst this;have:rfs ms 0=[]:=g;rw [this] at m;cases m
theorem rl1 {M:D} (a:GP ms (len ms) M dp) (b:len ms≤9):Rs ms sR (fun A l=>NZ A a2 ms st l) 1:=by
 have h:=DJ (sR:=sR) (R1:=Ry) (V:=QE) a2 st a b (yr a2 st a b) (fun c i d f j k=>l5 c i d f j k)
 intro A l i m n o p q;obtain ⟨B,g⟩:=h A l i m n o p q;have e:NZ A a2 ms st l=Ry l (.int 0) A a2 ms st:=oO A a2 ms st l;exact ⟨B,e.trans g.1,g.2⟩
theorem yS {M:D} (a:GP ms (len ms) M dp) (b:len ms≤9):Vs ms sR (fun nm A=>Sj nm A a2 ms st) 1:=by
 have h:=DK (sR:=sR) (R:=NZ) a2 st a b (rl1 a2 st a b);intro nm A i c d f j;obtain ⟨B,g⟩:=h nm A i c d f j;have e:Sj nm A a2 ms st=VT NZ nm A a2 ms st:=l4 nm A a2 ms st;exact ⟨B,e.trans g.1,g.2⟩
theorem rl2 {M:D} (a:GP ms (len ms) M dp) (b:len ms≤9):Rs ms sR (fun A l=>O5 A a2 ms st l) 2:=by
 have h:=DJ (sR:=sR) (R1:=R7) (V:=Sj) a2 st a b (yS a2 st a b) (fun c i d f j k=>ut c i d f j k)
 intro A l i m n o p q;obtain ⟨B,g⟩:=h A l i m n o p q;have e:O5 A a2 ms st l=R7 l (.int 0) A a2 ms st:=mq A a2 ms st l;exact ⟨B,e.trans g.1,g.2⟩
theorem yB {M:D} (a:GP ms (len ms) M dp) (b:len ms≤9):Vs ms sR (fun nm A=>Rm nm A a2 ms st) 2:=by
 have h:=DK (sR:=sR) (R:=O5) a2 st a b (rl2 a2 st a b);intro nm A i c d f j;obtain ⟨B,g⟩:=h nm A i c d f j;have e:Rm nm A a2 ms st=VT O5 nm A a2 ms st:=wh nm A a2 ms st;exact ⟨B,e.trans g.1,g.2⟩
theorem rl3 {M:D} (a:GP ms (len ms) M dp) (b:len ms≤9):Rs ms sR (fun A l=>Pb A a2 ms st l) 3:=by
 have h:=DJ (sR:=sR) (R1:=Rk) (V:=Rm) a2 st a b (yB a2 st a b) (fun c i d f j k=>oP c i d f j k)
 intro A l i m n o p q;obtain ⟨B,g⟩:=h A l i m n o p q;have e:Pb A a2 ms st l=Rk l (.int 0) A a2 ms st:=rK A a2 ms st l;exact ⟨B,e.trans g.1,g.2⟩
theorem yA {M:D} (a:GP ms (len ms) M dp) (b:len ms≤9):Vs ms sR (fun nm A=>RW nm A a2 ms st) 3:=by
 have h:=DK (sR:=sR) (R:=Pb) a2 st a b (rl3 a2 st a b);intro nm A i c d f j;obtain ⟨B,g⟩:=h nm A i c d f j;have e:RW nm A a2 ms st=VT Pb nm A a2 ms st:=qh nm A a2 ms st;exact ⟨B,e.trans g.1,g.2⟩
theorem rl4 {M:D} (a:GP ms (len ms) M dp) (b:len ms≤9):Rs ms sR (fun A l=>O9 A a2 ms st l) 4:=by
 have h:=DJ (sR:=sR) (R1:=QW) (V:=RW) a2 st a b (yA a2 st a b) (fun c i d f j k=>vh c i d f j k)
 intro A l i m n o p q;obtain ⟨B,g⟩:=h A l i m n o p q;have e:O9 A a2 ms st l=QW l (.int 0) A a2 ms st:=ou A a2 ms st l;exact ⟨B,e.trans g.1,g.2⟩
theorem ym {M:D} (a:GP ms (len ms) M dp) (b:len ms≤9):Vs ms sR (fun nm A=>RH nm A a2 ms st) 4:=by
 have h:=DK (sR:=sR) (R:=O9) a2 st a b (rl4 a2 st a b);intro nm A i c d f j;obtain ⟨B,g⟩:=h nm A i c d f j;have e:RH nm A a2 ms st=VT O9 nm A a2 ms st:=rE nm A a2 ms st;exact ⟨B,e.trans g.1,g.2⟩
theorem rl5 {M:D} (a:GP ms (len ms) M dp) (b:len ms≤9):Rs ms sR (fun A l=>OP A a2 ms st l) 5:=by
 have h:=DJ (sR:=sR) (R1:=Sp) (V:=RH) a2 st a b (ym a2 st a b) (fun c i d f j k=>qS c i d f j k)
 intro A l i m n o p q;obtain ⟨B,g⟩:=h A l i m n o p q;have e:OP A a2 ms st l=Sp l (.int 0) A a2 ms st:=lV A a2 ms st l;exact ⟨B,e.trans g.1,g.2⟩
theorem zq {M:D} (a:GP ms (len ms) M dp) (b:len ms≤9):Vs ms sR (fun nm A=>Rh nm A a2 ms st) 5:=by
 have h:=DK (sR:=sR) (R:=OP) a2 st a b (rl5 a2 st a b);intro nm A i c d f j;obtain ⟨B,g⟩:=h nm A i c d f j;have e:Rh nm A a2 ms st=VT OP nm A a2 ms st:=wC nm A a2 ms st;exact ⟨B,e.trans g.1,g.2⟩
theorem rl6 {M:D} (a:GP ms (len ms) M dp) (b:len ms≤9):Rs ms sR (fun A l=>O4 A a2 ms st l) 6:=by
 have h:=DJ (sR:=sR) (R1:=Sb) (V:=Rh) a2 st a b (zq a2 st a b) (fun c i d f j k=>nM c i d f j k)
 intro A l i m n o p q;obtain ⟨B,g⟩:=h A l i m n o p q;have e:O4 A a2 ms st l=Sb l (.int 0) A a2 ms st:=xa A a2 ms st l;exact ⟨B,e.trans g.1,g.2⟩
theorem yy {M:D} (a:GP ms (len ms) M dp) (b:len ms≤9):Vs ms sR (fun nm A=>Q8 nm A a2 ms st) 6:=by
 have h:=DK (sR:=sR) (R:=O4) a2 st a b (rl6 a2 st a b);intro nm A i c d f j;obtain ⟨B,g⟩:=h nm A i c d f j;have e:Q8 nm A a2 ms st=VT O4 nm A a2 ms st:=oQ nm A a2 ms st;exact ⟨B,e.trans g.1,g.2⟩
theorem rl7 {M:D} (a:GP ms (len ms) M dp) (b:len ms≤9):Rs ms sR (fun A l=>Oi A a2 ms st l) 7:=by
 have h:=DJ (sR:=sR) (R1:=Rr) (V:=Q8) a2 st a b (yy a2 st a b) (fun c i d f j k=>vT c i d f j k)
 intro A l i m n o p q;obtain ⟨B,g⟩:=h A l i m n o p q;have e:Oi A a2 ms st l=Rr l (.int 0) A a2 ms st:=mn A a2 ms st l;exact ⟨B,e.trans g.1,g.2⟩
theorem zp {M:D} (a:GP ms (len ms) M dp) (b:len ms≤9):Vs ms sR (fun nm A=>QK nm A a2 ms st) 7:=by
 have h:=DK (sR:=sR) (R:=Oi) a2 st a b (rl7 a2 st a b);intro nm A i c d f j;obtain ⟨B,g⟩:=h nm A i c d f j;have e:QK nm A a2 ms st=VT Oi nm A a2 ms st:=vz nm A a2 ms st;exact ⟨B,e.trans g.1,g.2⟩
theorem rl8 {M:D} (a:GP ms (len ms) M dp) (b:len ms≤9):Rs ms sR (fun A l=>NW A a2 ms st l) 8:=by
 have h:=DJ (sR:=sR) (R1:=Q5) (V:=QK) a2 st a b (zp a2 st a b) (fun c i d f j k=>vR c i d f j k)
 intro A l i m n o p q;obtain ⟨B,g⟩:=h A l i m n o p q;have e:NW A a2 ms st l=Q5 l (.int 0) A a2 ms st:=pk A a2 ms st l;exact ⟨B,e.trans g.1,g.2⟩
theorem zj {M:D} (a:GP ms (len ms) M dp) (b:len ms≤9):Vs ms sR (fun nm A=>K5 nm A a2 ms st) 8:=by
 have h:=DK (sR:=sR) (R:=NW) a2 st a b (rl8 a2 st a b);intro nm A i c d f j;obtain ⟨B,g⟩:=h nm A i c d f j;have e:K5 nm A a2 ms st=VT NW nm A a2 ms st:=mL nm A a2 ms st;exact ⟨B,e.trans g.1,g.2⟩
theorem iF {M:D} (f:GP ms (len ms) M dp) (g:len ms≤9) {a b:D} (l:Kn M st):∃B,RZ a2 ms st (ad Ad (.row [st])) (.bool false)=.row [.int 1,B]∧BT B∧(∀k,Kn B k→Rch ms st k)∧Kn B st∧∀j,j<len ms→Kn B (nmI ms j)→∀r∈rfs ms j,Kn B r:=by
 obtain ⟨i,hi,c,m,_⟩:=f.at l;have n:BT Ad:=⟨Sh2.empty,fun k v h=>by cases h⟩
 obtain ⟨B,o,d,p⟩:=zj a2 st (sR:=st) f g st Ad i c (by omega) n (.here BW)
 have e:K5 st Ad a2 ms st=.row [.int 1,B]:=o;refine ⟨B,?_,d.bt,fun k h=>(d.up k h).elim (fun q=>absurd (show mIx [.str] Ad (.row [k])<0 from by show (-1:Int)<0;decide) q) id,p,fun j hj s r t=>d.cls j hj s (fun h=>absurd (show mIx [.str] Ad (.row [nmI ms j])<0 from by show (-1:Int)<0;decide) h) r t⟩
 rw [xL,fC,ifT (by show (0:Int)<1;decide),ifF (by decide)]
 refine (?_:cond (decide ((sl (K5 st Ad a2 ms st) 0).toInt=1)) (UZ (ad Ad (.row [st])) (.bool false) (.int (IntKind.wrap .i64 (0+1))) (sl (K5 st Ad a2 ms st) 1) a2 ms st) _=_);rw [e,AC,show IntKind.wrap .i64 (0+1)=1 from rfl,fC,ifF (by show ¬(1:Int)<1;decide)]
 rfl
end
end
end Mx
namespace Mx
open Go Go.AE
section
variable [Ap]
structure TD (ms:D):Prop where
 wd:Wd ms 2
 nl:ms.isNil=true→len ms=0
 fw:∀m:Nat,m<len ms→Wd (cl ms m 1) 15
 fn:∀m:Nat,m<len ms→(cl ms m 1).isNil=true→len (cl ms m 1)=0
 n12:∀m:Nat,m<len ms→∀i:Nat,i<len (cl ms m 1)→(cl (cl ms m 1) i 12).isNil=true→len (cl (cl ms m 1) i 12)=0
structure CP (v w:D):Prop where
 ln:len w=len v
 wd:Wd w 15
 o:∀i:Nat,i<len v→∀c,c≠8→c≠12→cl w i c=cl v i c
 r8:∀i:Nat,i<len v→(cl w i 8).rows=(cl v i 8).rows
 r12:∀i:Nat,i<len v→(cl w i 12).rows=(cl v i 12).rows
theorem CP.set {v w x8 x12:D} {i:Nat} (h:CP v w) (hi:i<len v) (t:x8.rows=(cl v i 8).rows) (r:x12.rows=(cl v i 12).rows) :
  CP v (upd (upd w i 8 x8) i 12 x12)∧∀j:Nat,j<len v→j≠i→∀c,cl (upd (upd w i 8 x8) i 12 x12) j c=cl w j c:=by
 have I:=h.ln;have w1:Wd (upd w i 8 x8) 15:=Qf h.wd
 have key:∀j:Nat,∀c,cl (upd (upd w i 8 x8) i 12 x12) j c=if (j:Int)=i∧c=12 then x12 else if (j:Int)=i∧c=8 then x8 else cl w j c:=fun j c=>by
  rw [JX w1 (by decide) (by omega) (by rw [EZ];omega) (by omega),JX h.wd (by decide) (by omega) (by omega) (by omega)]
 refine ⟨⟨by rw [EZ,EZ];exact I,Qf w1,fun j hj c c8 c12=>?_,fun j hj=>?_,fun j hj=>?_⟩,fun j hj l c=>?_⟩
 ·rw [key,if_neg (fun e=>c12 e.2),if_neg (fun e=>c8 e.2)];exact h.o j hj c c8 c12
 ·rw [key,if_neg (fun e=>absurd e.2 (by decide))]
  by_cases e:(j:Int)=i
  ·have:j=i:=by omega
   subst this;rw [if_pos ⟨rfl,rfl⟩];exact t
  ·rw [if_neg (fun q=>e q.1)];exact h.r8 j hj
 ·rw [key];by_cases e:(j:Int)=i
  ·have:j=i:=by omega
   subst this;rw [if_pos ⟨rfl,rfl⟩];exact r
  ·rw [if_neg (fun q=>e q.1),if_neg (fun q=>e q.1)];exact h.r12 j hj
 ·rw [key,if_neg (fun q=>l (by omega)),if_neg (fun q=>l (by omega))]
theorem Ml {d:D} (h:len d=0):d.rows=[]:=ie h
theorem Ls {c:D}:(ni (ct Ad c) false).rows=c.rows:=by simp [ni,ct,Ad,D.rows]
theorem U6 {v v4 v5 v7:D} {mi N:Int} {b6 b9:Bool} (hv:FT v) (g:∀i:Nat,i<len v→(cl v i 12).isNil=true→len (cl v i 12)=0):∀k i w,i+k=len v→CP v w→(∀j:Nat,i≤j→j<len v→∀c,cl w j c=cl v j c)→
  ∃d,KO (.int mi) (.int N) (.int (len v:Int)) (.int (i:Nat)) v4 v5 (.bool b6) v7 w (.bool b9)=Jb (.int N) (.int (IntKind.wrap .i64 (mi+1))) v4 (upd v5 mi 1 (ni d b9)) (.bool b6) v7∧CP v d
 |0,i,w,h,e,f=>by
  have:i=len v:=h;subst this;rw [e9,ifF (by omega)]
  exact ⟨w,rfl,e⟩
 |k+1,i,w,h,e,f=>by
  have few:=hv.few;have r:=hv.len8 i (by omega)
  have o:=hv.len12 i (by omega)
  have s:=e.ln
  have nx:∀x8 x12:D,x8.rows=(cl v i 8).rows→x12.rows=(cl v i 12).rows→∃d,KO (.int mi) (.int N) (.int (len v:Int)) (.int ((i+1:Nat):Int)) v4 v5 (.bool b6) v7 (upd (upd w i 8 x8) i 12 x12) (.bool b9)=Jb (.int N) (.int (IntKind.wrap .i64 (mi+1))) v4 (upd v5 mi 1 (ni d b9)) (.bool b6) v7∧CP v d:=fun x8 x12 l a=>by
   obtain ⟨p,q⟩:=e.set (i:=i) (by omega) l a
   exact U6 hv g k (i+1) _ (by omega) p fun j t m c=>by rw [q j m (by omega)];exact f j (by omega) m c
  rw [e9,ifT (by omega),ifF (by omega),ifT (by omega),AL (by omega),f i (by omega) (by omega),f i (by omega) (by omega)]
  cases l:(cl v i 8).isNil with
  |true=>
   have n:=Ml (hv.nil8 i (by omega) l)
   rw [vx];cases a:(cl v i 12).isNil with
   |true=>
    have b:=Ml (g i (by omega) a)
    rw [vx];exact nx _ _ (by rw [n];rfl) (by rw [b];rfl)
   |false=>rw [lp,ifT (by omega)];exact nx _ _ (by rw [n];rfl) Ls
  |false=>
   rw [lp,ifT (by omega)]
   cases a:(cl v i 12).isNil with
   |true=>
    have b:=Ml (g i (by omega) a)
    rw [vx];exact nx _ _ Ls (by rw [b];rfl)
   |false=>rw [lp,ifT (by omega)];exact nx _ _ Ls Ls
structure CM (ms q:D):Prop where
 ln:len q=len ms
 nm:∀i:Nat,i<len ms→cl q i 0=cl ms i 0
 fs:∀i:Nat,i<len ms→CP (cl ms i 1) (cl q i 1)
theorem CP.ni {v w:D} {b:Bool} (h:CP v w):CP v (AE.ni w b):=⟨h.ln,eZ h.wd,h.o,h.r8,h.r12⟩
theorem UJ {d a st:D} {b:Bool} (l:TD d) (w:len d≤9) (hv:∀m:Nat,m<len d→FT (cl d m 1)):∀k i (q:D),i+k=len d→len q=len d→Wd q 2→(∀j:Nat,j<len d→cl q j 0=cl d j 0)→
  (∀j:Nat,j<i→j<len d→CP (cl d j 1) (cl q j 1))→(∀j:Nat,i≤j→j<len d→cl q j 1=cl d j 1)→∃f o,Jb (.int (len d:Int)) (.int (i:Nat)) a q (.bool b) st=.row [.int 1,a,f,.bool o,st]∧CM d f
 |0,i,q,h,p,n,r,s,t=>by
  have:i=len d:=h;subst this;rw [ac,ifF (by omega)]
  exact ⟨q,b,rfl,p,r,fun j hj=>s j hj hj⟩
 |k+1,i,q,h,p,n,r,s,t=>by
  have hi:i<len d:=by omega
  have few:=(hv i hi).few
  have nx:∀x,CP (cl d i 1) x→∃f o,Jb (.int (len d:Int)) (.int ((i+1:Nat):Int)) a (upd q i 1 x) (.bool b) st=.row [.int 1,a,f,.bool o,st]∧CM d f:=fun x y=>by
   have key:∀j:Nat,∀c,cl (upd q i 1 x) j c=if (j:Int)=i∧c=1 then x else cl q j c:=fun j c=>JX n (by decide) (by omega) (by omega) (by omega)
   refine UJ l w hv k (i+1) _ (by omega) (by rw [EZ];exact p) (Qf n) (fun j hj=>?_) (fun j z u=>?_) (fun j z u=>?_)
   ·rw [key,if_neg (fun e=>absurd e.2 (by decide))];exact r j hj
   ·rw [key];by_cases e:(j:Int)=i
    ·have:j=i:=by omega
     subst this;rw [if_pos ⟨rfl,rfl⟩];exact y
    ·rw [if_neg (fun q=>e q.1)];exact s j (by omega) u
   ·rw [key,if_neg (fun e=>by omega)];exact t j (by omega) u
  rw [ac,ifT (by omega),ifF (by omega),ifT (by omega),t i (L1 _) hi]
  cases g:(cl d i 1).isNil with
  |true=>
   have A:=l.fn i hi g;have key:cl (upd q i 1 B0) i 1=B0:=KM n (by decide) (by omega) (by omega)
   rw [vx,key,MG,mg,ifF (by decide),AL (by omega)]
   exact nx B0 ⟨by rw [MG,A],aB,fun j hj=>by omega,fun j hj=>by omega,fun j hj=>by omega⟩
  |false=>
   rw [lp,ifT (by omega)]
   obtain ⟨C,v,B⟩:=U6 (v4:=a) (v5:=q) (v7:=st) (mi:=(i:Nat)) (N:=len d) (b6:=b) (b9:=false) (hv i hi) (l.n12 i hi) (len (cl d i 1)) 0 (ct Ad (cl d i 1)) (by omega) ⟨CV,fj OC (l.fw i hi),fun j hj c _ _=>E6,fun j hj=>by rw [E6],fun j hj=>by rw [E6]⟩ (fun j _ _ c=>E6)
   rw [show (0:Int)=((0:Nat):Int) from rfl,v,AL (by omega)]
   exact nx _ B.ni
theorem iG {a c st:D} (e:TD c) (f:len c≤9) (hv:∀m:Nat,m<len c→FT (cl c m 1)):∃q b,GN a c st=.row [.int 1,a,q,.bool b,st]∧CM c q:=by
 rw [pu];cases d:c.isNil with
 |true=>
  have g:=e.nl d;rw [vx,ac,ifF (by decide)]
  exact ⟨B0,true,rfl,by rw [MG,g],fun j hj=>by omega,fun j hj=>by omega⟩
 |false=>
  rw [lp,ifT (by omega)]
  exact UJ e f hv (len c) 0 (ct Ad c) (by omega) CV (fj OC e.wd) (fun j _=>E6) (fun j hj=>absurd hj (gk _)) (fun j _ _=>E6)
end
end Mx
namespace Mx
open Go Go.AE
section
variable [Ap]
def tU (t k:D):Int:=fdG (fun j=>D.strEq (cl t j 0) k) (len t) 0
def fU (v k:D) (i:Nat):Bool:=(decide (kd v i=9)&&D.strEq (cl v i 10) k) || !decide (tU (cl v i 8) k<0)
def us (v k:D):Bool:=!decide (fdG (fun i=>fU v k i) (len v) 0<0)
theorem ge {t k:D} (h:len t≤1000000):NS t k=.row [.int 1,.int (tU t k)]:=by
 rw [sD];refine find (F:=fun j=>Ot t (.int (j:Nat)) k) (bad:=fun i=>D.strEq (cl t i 0) k) (n:=len t) ?_ ?_
 ·intro j hj;refine (?_:Ot t (.int ((j:Nat):Int)) k=_);rw [fu,ifT (by omega),ifF (by omega),AL (by omega)]
 ·refine (?_:Ot t (.int ((len t:Nat):Int)) k=_);rw [fu,ifF (by omega)]
theorem jT {v k:D} (few:len v≤16) (b:∀j:Nat,j<len v→len (cl v j 8)≤6):Vq v k=.row [.int 1,.int (fdG (fun i=>fU v k i) (len v) 0)]:=by
 rw [pD];refine find (F:=fun j=>IQ v (.int (j:Nat)) k) (bad:=fun i=>fU v k i) (n:=len v) ?_ ?_
 ·intro j hj;have d:=b j hj;refine (?_:IQ v (.int ((j:Nat):Int)) k=_);have c:(cl v j 1).toInt=kd v j:=rfl;rw [fq,ifT (by omega),ifF (by omega),AL (by omega),ge (by omega),c]
  unfold fU
  have tail:cond (decide ((sl (.row [.int 1,.int (tU (cl v j 8) k)]) 0).toInt=1)) (cond (decide ((sl (.row [.int 1,.int (tU (cl v j 8) k)]) 1).toInt<0)) (IQ v (.int ((j+1:Nat):Int)) k) (.row [.int 1,.int ((j:Nat):Int)])) (.row [])=cond (!decide (tU (cl v j 8) k<0)) (.row [.int 1,.int ((j:Nat):Int)]) (IQ v (.int ((j+1:Nat):Int)) k):=by
   rw [AC];refine (?_:cond (decide (tU (cl v j 8) k<0)) _ _=_);cases decide (tU (cl v j 8) k<0)<;>rfl
  by_cases a:kd v j=9
  ·rw [ifT a,oj a];cases e:D.strEq (cl v j 10) k with
   |true=>rfl
   |false=>rw [lp,tail];rfl
  ·rw [ifF a,ll a,tail];rfl
 ·refine (?_:IQ v (.int ((len v:Nat):Int)) k=_);rw [fq,ifF (by omega)]
theorem gu {a v k:D} (few:len v≤16) (b:∀j:Nat,j<len v→len (cl v j 8)≤6):Jn a v k=.row [.int 1,.bool (us v k)]:=by
 rw [qJ,jT few b,AC];rfl
def isR (v:D) (i:Nat):Bool:=Gy (kd v i)&&us v (cl v i 0)
def rgN (v:D):Nat→Int
 |0=>0
 |n+1=>if isR v n=true then rgN v n+1 else rgN v n
theorem Qk {v:D}:∀n:Nat,0≤rgN v n∧rgN v n≤n
 |0=>⟨zw _,zw _⟩
 |n+1=>by
  have:=Qk (v:=v) n;rw [rgN];split<;>omega
theorem I7 {k:Int}:Gy k=true↔1≤k∧k≤3:=by
 unfold Gy;simp only [ws,kp];omega
theorem cU {t a k:D} (h:t.rows=a.rows):tU t k=tU a k:=by
 unfold tU;have b:len t=len a:=by unfold len;rw [h]
 have c:∀(j:Nat),cl t j 0=cl a j 0:=fun j=>by unfold cl;rw [h]
 rw [b];exact C0 fun j _ _=>by rw [c]
theorem CP.us {v w k:D} (h:CP v w):Mx.us w k=Mx.us v k:=by
 unfold Mx.us;rw [h.ln];rw [C0 (q:=fun i=>fU v k i)]
 intro j _ hj;unfold fU kd;rw [h.o j (by omega) 1 (by decide) (by decide),h.o j (by omega) 10 (by decide) (by decide),cU (h.r8 j (by omega))]
end
end Mx
set_option maxRecDepth 4000
namespace Mx
open Go Go.AE
section
variable [Ap]
section
variable {v0 v1 v3 v4 v6 v7:D} {v2 v5:Bool} {v8:Int}
theorem S2 {a b c d e f:Int} (h:len v4≤1000000):Fz v0 v1 (.bool v2) v3 v4 (.bool v5) v6 v7 (.int v8) (.int a) (.int b) (.int c) (.int d) (.int e) (.int f)=.row [.int 1,ad v4 (.row [.int a,.int b,.int c,.int d,.int e,.int f]),.bool false]:=by
 rw [oB,ifT (by omega)]
theorem Kr {a b c:Int} (h:len v4≤1000000):Bh v0 v1 (.bool v2) v3 v4 (.bool v5) v6 v7 (.int v8) (.int a) (.int b) (.int c)=.row [.int 1,ad v4 (.row [.int a,.int v8,.int b,.int (-1),.int (-1),.int c]),.bool false]:=by
 rw [sq,eo,AC];have:=S2 (v0:=v0) (v1:=v1) (v2:=v2) (v3:=v3) (v4:=v4) (v5:=v5) (v6:=v6) (v7:=v7) (v8:=v8) (a:=a) (b:=v8) (c:=b) (d:=-1) (e:=-1) (f:=c) h;rw [show sl (D.row [.int 1,.int a]) 1=.int a from rfl,this,AC];rfl
end
structure IT (T:D):Prop where
 sh:Sh2 T
 it:∀k v,lk T k=some v→∃n,v=.int n
theorem IT.cell {T k:D} (h:IT T) (l:¬mIx [.str] T (.row [k])<0):∃n,cl T (mIx [.str] T (.row [k])) 1=.int n:=by
 have:lk T k=some (cl T (mIx [.str] T (.row [k])) 1):=by unfold lk;rw [if_neg l]
 exact h.it k _ this
theorem Vv {c q nm st T R:D} {b2:Bool} {f m:Int} (l:IT T) (o:len c≤10):∀n j (C:D) (b:Bool),j+n=len c→len C+n≤900000→∃a d,MO (.int f) c (.int (j:Nat)) nm q (.bool b2) st C (.bool b) T R (.int m)=.row [.int 1,a,.bool d]∧len a=len C+n
 |0,j,C,b,h,p=>by
  rw [fb _ _ _ _ _ _ _ _ _ _ _ _ rfl rfl,ifF (by omega)]
  exact ⟨C,b,rfl,rfl⟩
 |n+1,j,C,b,h,p=>by
  have nx:∀(i:D),len i=len C+1→∃a d,MO (.int f) c (.int ((j+1:Nat):Int)) nm q (.bool b2) st i (.bool false) T R (.int m)=.row [.int 1,a,.bool d]∧len a=len C+(n+1):=fun i u=>by
   obtain ⟨a,d,r,v⟩:=Vv l o n (j+1) i false (by omega) (by omega)
   exact ⟨a,d,r,by omega⟩
  rw [fb _ _ _ _ _ _ _ _ _ _ _ _ rfl rfl,ifT (by omega),ifF (by omega),AL (by omega)]
  have step:∀x:Int,∀e:D,e=.int x→∃a d,cond (decide ((sl (Bh nm q (.bool b2) st C (.bool b) T R (.int m) (.int 8) (.int f) e) 0).toInt=1)) (cond (decide ((IntKind.wrap .i64 ((len (sl (Bh nm q (.bool b2) st C (.bool b) T R (.int m) (.int 8) (.int f) e) 1):Int)-1))<0)) (.row []) (cond (decide ((IntKind.wrap .i64 ((len (sl (Bh nm q (.bool b2) st C (.bool b) T R (.int m) (.int 8) (.int f) e) 1):Int)-1))<(len (sl (Bh nm q (.bool b2) st C (.bool b) T R (.int m) (.int 8) (.int f) e) 1):Int)))
    (MO (.int f) c (.int ((j+1:Nat):Int)) nm q (.bool b2) st (upd (sl (Bh nm q (.bool b2) st C (.bool b) T R (.int m) (.int 8) (.int f) e) 1) (IntKind.wrap .i64 ((len (sl (Bh nm q (.bool b2) st C (.bool b) T R (.int m) (.int 8) (.int f) e) 1):Int)-1)) 4 (.int ((j:Nat):Int))) (sl (Bh nm q (.bool b2) st C (.bool b) T R (.int m) (.int 8) (.int f) e) 2) T R (.int m)) (.row []))) (.row [])=.row [.int 1,a,.bool d]∧len a=len C+(n+1):=fun x e s=>by
   subst s;rw [Kr (by omega),AC]
   have g:len (sl (D.row [.int 1,ad C (.row [.int 8,.int m,.int f,.int (-1),.int (-1),.int x]),.bool false]) 1)=len C+1:=by
    show len (ad C _)=_;rw [Dv]
   rw [g,A4 (by omega) (by omega),ifF (by omega),ifT (by omega)]
   exact nx _ (by rw [EZ];exact g)
  by_cases k:mIx [.str] T (.row [cl c j 2])<0
  ·rw [ifT k];exact step 0 _ rfl
  ·obtain ⟨x,t⟩:=l.cell k;rw [ifF k];exact step x _ t
theorem fV {q nm st C T R:D} {b2 b:Bool} {m k:Int} {x10 x18 x19 x20 x21 c:D} {x11 x12 x15 x16 x17 x23 x24:Int} {x13 x14:Bool} (e:IT T) (g:len c≤10) (j:len C≤800000) :
  ∃a d,UX nm q (.bool b2) st C (.bool b) T R (.int m) (.int k) x10 (.int x11) (.int x12) (.bool x13) (.bool x14) (.int x15) (.int x16) (.int x17) x18 x19 x20 x21 c (.int x23) (.int x24)=.row [.int 1,a,.bool d]∧len a=len C+1+len c:=by
 rw [sG,Kr (by omega),AC]
 obtain ⟨a,d,h,i⟩:=Vv (c:=c) (q:=q) (nm:=nm) (st:=st) (T:=T) (R:=R) (b2:=b2) (f:=k) (m:=m) e g (len c) 0 (ad C (.row [.int 7,.int m,.int k,.int (-1),.int (-1),.int (-1)])) false (by omega) (by rw [Dv];omega)
 exact ⟨a,d,h,by rw [i,Dv]⟩
structure RP (v nm R0:D) (k:Nat) (R:D):Prop where
 sh:Sh2 R
 at':lk R nm=some (.int (rgN v k))
 el:∀x,D.strEq nm x=false→lk R x=lk R0 x
section
variable {q nmP st B T v w nm R0:D} {b1 b5:Bool} {N:Int} {i L:Nat}
theorem VK (hq:i<len q) (u:cl q i 0=nm) (hw:cl q i 1=w) (y:CP v w) (hv:FT v) (P:IT T) (hL:L≤90000):∀n k (C:D) (b:Bool) (R:D),k+n=len v→len C≤L+11*k→RP v nm R0 k R→
  ∃a p f,BU q (.bool b1) (.int N) (.int (i:Nat)) w (.int (len w:Int)) (.int (k:Nat)) nmP (.bool b5) st C (.bool b) (.int (i:Nat)) B (.int (i:Nat)) (.int (i:Nat)) (.int (i:Nat)) (.int (i:Nat)) T R=HE q (.bool b1) (.int N) (.int (IntKind.wrap .i64 ((i:Nat)+1))) nmP (.bool b5) st a (.bool p) (.int (i:Nat)) B T f∧len a≤len C+11*n+1∧0<len a∧RP v nm R0 (len v) f
 |0,k,C,b,R,h,hC,hR=>by
  have few:=hv.few;have hl:=y.ln;have:k=len v:=h;subst this;rw [fi _ _ _ _ _ _ _ _ _ _ _ _ _ _ _ _ _ _ _ _ rfl rfl rfl rfl rfl rfl rfl rfl,ifF (by omega),Kr (by omega),AC]
  exact ⟨_,_,R,rfl,by show len (ad C _)≤_;rw [Dv];omega,by show 0<len (ad C _);rw [Dv];omega,hR⟩
 |n+1,k,C,b,R,h,hC,hR=>by
  have few:=hv.few;have hl:=y.ln;have g:k<len v:=by omega
  have Q:len (cl w k 12)≤10:=by
   have:=hv.len12 k g;show (cl w k 12).rows.length≤10;rw [y.r12 k g];exact this
  obtain ⟨l,S⟩:=hv.i1 k g;obtain ⟨n2,h2⟩:=hv.i2 k g;obtain ⟨n3,h3⟩:=hv.b3 k g;obtain ⟨n4,h4⟩:=hv.b4 k g;obtain ⟨n5,h5⟩:=hv.i5 k g;obtain ⟨n6,h6⟩:=hv.i6 k g;obtain ⟨n7,h7⟩:=hv.i7 k g;obtain ⟨U,V⟩:=hv.i13 k g;obtain ⟨W,X⟩:=hv.i14 k g;have o:∀c,c≠8→c≠12→cl w k c=cl v k c:=y.o k g
  have nx:∀(M:D) (b2:Bool) (O:D),len M≤len C+11→RP v nm R0 (k+1) O→∃a p f,BU q (.bool b1) (.int N) (.int (i:Nat)) w (.int (len w:Int)) (.int ((k+1:Nat):Int)) nmP (.bool b5) st M (.bool b2) (.int (i:Nat)) B (.int (i:Nat)) (.int (i:Nat)) (.int (i:Nat)) (.int (i:Nat)) T O=HE q (.bool b1) (.int N) (.int (IntKind.wrap .i64 ((i:Nat)+1))) nmP (.bool b5) st a (.bool p) (.int (i:Nat)) B T f∧len a≤len C+11*(n+1)+1∧0<len a∧RP v nm R0 (len v) f:=fun M b2 O ae Y=>by
   obtain ⟨a,p,f,g1,g2,Z,g4⟩:=VK hq u hw y hv P hL n (k+1) M b2 O (by omega) (by omega) Y
   exact ⟨a,p,f,g1,by omega,Z,g4⟩
  have keep:isR v k=false→RP v nm R0 (k+1) R:=fun A=>⟨hR.sh,by rw [hR.at',rgN,if_neg (by rw [A];decide)],hR.el⟩
  obtain ⟨G,aa,ab,af⟩:=fV (q:=q) (nm:=nmP) (st:=st) (C:=C) (T:=T) (R:=R) (b2:=b5) (b:=b) (m:=(i:Nat)) (k:=(k:Nat)) (x10:=cl w k 0) (x18:=cl w k 8) (x19:=cl w k 9) (x20:=cl w k 10) (x21:=cl w k 11) (c:=cl w k 12) (x11:=l) (x12:=n2) (x13:=n3) (x14:=n4) (x15:=n5) (x16:=n6) (x17:=n7) (x23:=U) (x24:=W) P Q (by omega)
  have g0:UX nmP q (.bool b5) st C (.bool b) T R (.int (i:Nat)) (.int (k:Nat)) (cl w k 0) (cl w k 1) (cl w k 2) (cl w k 3) (cl w k 4) (cl w k 5) (cl w k 6) (cl w k 7) (cl w k 8) (cl w k 9) (cl w k 10) (cl w k 11) (cl w k 12) (cl w k 13) (cl w k 14)=.row [.int 1,G,.bool aa]:=by
   rw [o 1 (by decide) (by decide),o 2 (by decide) (by decide),o 3 (by decide) (by decide),o 4 (by decide) (by decide),o 5 (by decide) (by decide),o 6 (by decide) (by decide),o 7 (by decide) (by decide),o 13 (by decide) (by decide),o 14 (by decide) (by decide),S,h2,h3,h4,h5,h6,h7,V,X]
   exact ab
  have e:∀E:Int,∃F,Bh nmP q (.bool b5) st C (.bool b) T R (.int (i:Nat)) (.int E) (.int (k:Nat)) (cl T (mIx [.str] T (.row [cl w k 9])) 1)=F∧(¬mIx [.str] T (.row [cl w k 9])<0→∃r,F=.row [.int 1,ad C r,.bool false]):=fun E=>⟨_,rfl,fun g=>by
   obtain ⟨x,s⟩:=P.cell g;rw [s,Kr (by omega)];exact ⟨_,rfl⟩⟩
  obtain ⟨F5,g5,p5⟩:=e 9;obtain ⟨F6,g6,p6⟩:=e 6;obtain ⟨F7,g7,p7⟩:=e 5;have z:¬mIx [.str] R (.row [nm])<0:=(Ef hR.at').1;have t:cl R (mIx [.str] R (.row [nm])) 1=.int (rgN v k):=(Ef hR.at').2;have ac:(cl w k 1).toInt=l:=by rw [o 1 (by decide) (by decide),S];rfl
  have H:kd v k=l:=by unfold kd;rw [S];rfl
  have ag:=Qk (v:=v) k
  have g2:Fz nmP q (.bool b5) st C (.bool b) T (upd R (mIx [.str] R (.row [(cl q i 0)])) 1 (.int (IntKind.wrap .i64 ((cl R (mIx [.str] R (.row [(cl q i 0)])) 1).toInt+1)))) (.int (i:Nat)) (sl (.row [.int 1,.int 4]) 1) (.int (i:Nat)) (.int (k:Nat)) (cl R (mIx [.str] R (.row [(cl q i 0)])) 1) (.int (-1)) (.int (-1))=.row [.int 1,ad C (.row [.int 4,.int (i:Nat),.int (k:Nat),.int (rgN v k),.int (-1),.int (-1)]),.bool false]:=by
   rw [u,t];exact S2 (by omega)
  have Z:Fz nmP q (.bool b5) st C (.bool b) T R (.int (i:Nat)) (sl (.row [.int 1,.int 4]) 1) (.int (i:Nat)) (.int (k:Nat)) (.int (-1)) (.int (-1)) (.int (-1))=.row [.int 1,ad C (.row [.int 4,.int (i:Nat),.int (k:Nat),.int (-1),.int (-1),.int (-1)]),.bool false]:=S2 (by omega)
  rw [fi _ _ _ _ _ _ _ _ _ _ _ _ _ _ _ _ _ _ _ _ g0 (eo 4) g2 Z rfl g5 g6 g7,ifT (by omega),ifF (by omega),ifT (by omega),AL (by omega),ac]
  have I:∀r,len (ad C r)≤len C+11:=fun r=>by rw [Dv];omega
  have ref:∀{E:Int} {F:D},(¬mIx [.str] T (.row [cl w k 9])<0→∃r,F=.row [.int 1,ad C r,.bool false])→isR v k=false→∃a p f,cond (decide (mIx [.str] T (.row [(cl w k 9)])<0)) (cond (decide ((sl (Bh nmP q (.bool b5) st C (.bool b) T R (.int (i:Nat)) (.int E) (.int (k:Nat)) (.int 0)) 0).toInt=1)) (BU q (.bool b1) (.int N) (.int (i:Nat)) w (.int (len w:Int)) (.int ((k+1:Nat):Int)) nmP (.bool b5) st (sl (Bh nmP q (.bool b5) st C (.bool b) T R (.int (i:Nat)) (.int E) (.int (k:Nat)) (.int 0)) 1) (sl (Bh nmP q (.bool b5) st C (.bool b) T R (.int (i:Nat)) (.int E) (.int (k:Nat)) (.int 0)) 2) (.int (i:Nat)) B (.int (i:Nat)) (.int (i:Nat)) (.int (i:Nat)) (.int (i:Nat)) T R) (.row []))
    (cond (decide ((sl F 0).toInt=1)) (BU q (.bool b1) (.int N) (.int (i:Nat)) w (.int (len w:Int)) (.int ((k+1:Nat):Int)) nmP (.bool b5) st (sl F 1) (sl F 2) (.int (i:Nat)) B (.int (i:Nat)) (.int (i:Nat)) (.int (i:Nat)) (.int (i:Nat)) T R) (.row []))=HE q (.bool b1) (.int N) (.int (IntKind.wrap .i64 ((i:Nat)+1))) nmP (.bool b5) st a (.bool p) (.int (i:Nat)) B T f∧len a≤len C+11*(n+1)+1∧0<len a∧RP v nm R0 (len v) f:=fun hp A=>by
   by_cases s:mIx [.str] T (.row [cl w k 9])<0
   ·rw [ifT s,Kr (by omega),AC];exact nx _ _ _ (I _) (keep A)
   ·obtain ⟨r,rfl⟩:=hp s;rw [ifF s,AC];exact nx _ _ _ (I _) (keep A)
  have d:Gy l=false→isR v k=false:=fun hn=>by unfold isR;rw [H,hn];rfl
  have J:∀m:Int,¬(1≤m∧m≤3)→Gy m=false:=fun m hm=>by cases hh:Gy m with|true=>exact absurd (I7.1 hh) hm|false=>rfl
  by_cases k8:l=8
  ·rw [ifT k8];exact ref p7 (d (J _ (by omega)))
  rw [ifF k8];by_cases k7:l=7
  ·rw [ifT k7];exact ref p6 (d (J _ (by omega)))
  rw [ifF k7];by_cases k12:l=12
  ·rw [ifT k12];exact ref p5 (d (J _ (by omega)))
  rw [ifF k12];by_cases k9:l=9
  ·rw [ifT k9,AC];exact nx _ _ _ (by show len G≤_;omega) (keep (d (J _ (by omega))))
  rw [ifF k9,AC,ifF (by omega),ifT (by omega),u]
  have hu:Jn nm (cl q i 1) (cl w k 0)=.row [.int 1,.bool (us v (cl v k 0))]:=by
   rw [hw,gu (by omega) (fun j hj=>by show (cl w j 8).rows.length≤6;rw [y.r8 j (by omega)];exact hv.len8 j (by omega)),y.us,o 0 (by decide) (by decide)]
  rw [hu]
  have num:Gy l=true→∃a p f,cond (decide ((sl (.row [.int 1,.bool (us v (cl v k 0))]) 0).toInt=1)) (cond ((sl (.row [.int 1,.bool (us v (cl v k 0))]) 1).toBool) (cond (decide ((mIx [.str] R (.row [nm]))<0)) (cond (decide ((sl (Fz nmP q (.bool b5) st C (.bool b) T (ad R (.row [nm,(.int 1)])) (.int (i:Nat)) (sl (.row [.int 1,.int 4]) 1) (.int (i:Nat)) (.int (k:Nat)) (.int 0) (.int (-1)) (.int (-1))) 0).toInt=1))
    (BU q (.bool b1) (.int N) (.int (i:Nat)) w (.int (len w:Int)) (.int ((k+1:Nat):Int)) nmP (.bool b5) st (sl (Fz nmP q (.bool b5) st C (.bool b) T (ad R (.row [nm,(.int 1)])) (.int (i:Nat)) (sl (.row [.int 1,.int 4]) 1) (.int (i:Nat)) (.int (k:Nat)) (.int 0) (.int (-1)) (.int (-1))) 1) (sl (Fz nmP q (.bool b5) st C (.bool b) T (ad R (.row [nm,(.int 1)])) (.int (i:Nat)) (sl (.row [.int 1,.int 4]) 1) (.int (i:Nat)) (.int (k:Nat)) (.int 0) (.int (-1)) (.int (-1))) 2) (.int (i:Nat)) B (.int (i:Nat)) (.int (i:Nat)) (.int (i:Nat)) (.int (i:Nat)) T (ad R (.row [nm,(.int 1)]))) (.row [])) (
    cond (decide ((sl (.row [.int 1,ad C (.row [.int 4,.int (i:Nat),.int (k:Nat),.int (rgN v k),.int (-1),.int (-1)]),.bool false]) 0).toInt=1)) (BU q (.bool b1) (.int N) (.int (i:Nat)) w (.int (len w:Int)) (.int ((k+1:Nat):Int)) nmP (.bool b5) st (sl (.row [.int 1,ad C (.row [.int 4,.int (i:Nat),.int (k:Nat),.int (rgN v k),.int (-1),.int (-1)]),.bool false]) 1) (sl (.row [.int 1,ad C (.row [.int 4,.int (i:Nat),.int (k:Nat),.int (rgN v k),.int (-1),.int (-1)]),.bool false]) 2) (.int (i:Nat)) B (.int (i:Nat)) (.int (i:Nat)) (.int (i:Nat)) (.int (i:Nat)) T (upd R (mIx [.str] R (.row [nm])) 1 (.int (IntKind.wrap .i64 ((cl R (mIx [.str] R (.row [nm])) 1).toInt+1))))) (.row []))) (
    cond (decide ((sl (.row [.int 1,ad C (.row [.int 4,.int (i:Nat),.int (k:Nat),.int (-1),.int (-1),.int (-1)]),.bool false]) 0).toInt=1)) (BU q (.bool b1) (.int N) (.int (i:Nat)) w (.int (len w:Int)) (.int ((k+1:Nat):Int)) nmP (.bool b5) st (sl (.row [.int 1,ad C (.row [.int 4,.int (i:Nat),.int (k:Nat),.int (-1),.int (-1),.int (-1)]),.bool false]) 1) (sl (.row [.int 1,ad C (.row [.int 4,.int (i:Nat),.int (k:Nat),.int (-1),.int (-1),.int (-1)]),.bool false]) 2) (.int (i:Nat)) B (.int (i:Nat)) (.int (i:Nat)) (.int (i:Nat)) (.int (i:Nat)) T R) (.row []))) (.row [])=HE q (.bool b1) (.int N) (.int (IntKind.wrap .i64 ((i:Nat)+1))) nmP (.bool b5) st a (.bool p) (.int (i:Nat)) B T f∧len a≤len C+11*(n+1)+1∧0<len a∧RP v nm R0 (len v) f:=fun hn=>by
   rw [AC];refine (?_:∃a p f,cond (us v (cl v k 0)) _ _=_∧_)
   cases K:us v (cl v k 0) with
   |false=>
    rw [lp,AC];exact nx _ _ _ (I _) (keep (by unfold isR;rw [K,Bool.and_false]))
   |true=>
    have A:isR v k=true:=by unfold isR;rw [H,hn,K];rfl
    rw [vx,ifF z,AC,t];refine nx _ _ _ (I _) ⟨hR.sh.upd,?_,fun x s=>?_⟩
    ·rw [Y3 hR.sh z,if_pos BW,rgN,if_pos A];show some (D.int (IntKind.wrap .i64 (rgN v k+1)))=_;rw [A4 (by omega) (by omega)]
    ·rw [Y3 hR.sh z,if_neg (by rw [s];decide)];exact hR.el x s
  by_cases k1:l=1
  ·rw [ifT k1];exact num (I7.2 (by omega))
  rw [ifF k1];by_cases k2:l=2
  ·rw [ifT k2];exact num (I7.2 (by omega))
  rw [ifF k2];by_cases k3:l=3
  ·rw [ifT k3];exact num (I7.2 (by omega))
  rw [ifF k3,AC];exact nx _ _ _ (I _) (keep (d (J _ (by omega))))
end
end
end Mx
set_option maxRecDepth 4000
namespace Mx
open Go Go.AE
section
variable [Ap]
def rg (a:D) (j:Nat):Int:=rgN (fsI a j) (len (fsI a j))
structure TS (ms:D) (i:Nat) (T:D):Prop where
 it:IT T
 no:∀x,(∀j,j<i→D.strEq (nmI ms j) x=false)→lk T x=none
structure RS (ms B:D) (i:Nat) (R:D):Prop where
 sh:Sh2 R
 yes:∀j,j<i→Kn B (nmI ms j)→lk R (nmI ms j)=some (.int (rg ms j))
 un:∀j,j<i→¬Kn B (nmI ms j)→lk R (nmI ms j)=none
 no:∀x,(∀j,j<i→D.strEq (nmI ms j) x=false)→lk R x=none
section
variable {ms q nmP st B M:D} {b1 b5:Bool} {dp:Nat→Int}
theorem Pw (G:GP ms (len ms) M dp) (V:len ms≤9) (I:BT B) (t:CM ms q):∀n i (C T R:D) (b:Bool) (m:Int),i+n=len ms→0<len C→len C≤2+178*i→TS ms i T→RS ms B i R→
  ∃s w J o,HE q (.bool b1) (.int (len ms:Int)) (.int (i:Nat)) nmP (.bool b5) st C (.bool b) (.int m) B T R=.row [.int 2,nmP,q,.bool b5,st,s,.bool w,J,o]∧0<len s∧RS ms B (len ms) o
 |0,i,C,T,R,b,m,h,H,W,f,hR=>by
  have:i=len ms:=h;subst this;rw [fv,ifF (by omega)]
  by_cases c:mIx [.str] T (.row [st])<0
  ·rw [ifT c,ifT (by omega)];exact ⟨_,_,_,_,rfl,by rw [EZ];exact H,hR⟩
  ·rw [ifF c,ifT (by omega)];exact ⟨_,_,_,_,rfl,by rw [EZ];exact H,hR⟩
 |n+1,i,C,T,R,b,m,h,H,W,f,hR=>by
  have hi:i<len ms:=by omega
  have X:=t.ln;have y:cl q i 0=nmI ms i:=t.nm i hi;have e:∀j,j<i→D.strEq (nmI ms j) (nmI ms i)=false:=fun j hj=>G.dist j i hj hi
  rw [fv,ifT (by omega),ifF (by omega),ifT (by omega),AL (by omega),y]
  by_cases z:mIx [.str] B (.row [nmI ms i])<0
  ·rw [ifT z];have K:¬Kn B (nmI ms i):=fun Y=>Y z
   refine Pw G V I t n (i+1) C T R b m (by omega) H (by omega) ⟨f.it,fun x c=>f.no x fun j hj=>c j (by omega)⟩ ⟨hR.sh,fun j hj d=>?_,fun j hj d=>?_,fun x c=>hR.no x fun j hj=>c j (by omega)⟩
   ·rcases R2 j i with a|a
    ·exact hR.yes j a d
    ·have:j=i:=by omega
     subst this;exact absurd d K
   ·rcases R2 j i with a|a
    ·exact hR.un j a d
    ·have:j=i:=by omega
     subst this;exact hR.no _ e
  ·have d:Kn B (nmI ms i):=z;have p:cl B (mIx [.str] B (.row [nmI ms i])) 1=.bool true:=I.tr (nmI ms i) _ (by unfold lk;rw [if_neg z])
   have O:=LB (f.no _ e);have P:=LB (hR.no _ e);have A:=G.fo i hi;have few:=A.ft.few;have E:CP (fsI ms i) (cl q i 1):=t.fs i hi;have Z:=E.ln;rw [ifF z,p];refine (?_:∃s w J o,cond true _ _=_∧_)
   rw [vx,ifT O,ifT P,G1,G1,Kr (by omega),AC]
   have F:IT (ad T (.row [nmI ms i,.int (len C:Int)])):=⟨f.it.sh.ad,fun k v hv=>by
    rw [HL f.it.sh] at hv;cases r:lk T k with
    |some u=>rw [r] at hv;cases hv;exact f.it.it k _ r
    |none=>
     rw [r] at hv;simp only at hv;split at hv
     ·cases hv;exact ⟨_,rfl⟩
     ·cases hv⟩
   have Q:RP (fsI ms i) (nmI ms i) (ad R (.row [nmI ms i,.int 0])) 0 (ad R (.row [nmI ms i,.int 0])):=⟨hR.sh.ad,by rw [HL hR.sh,hR.no _ e];simp [BW,rgN],fun x _=>rfl⟩
   obtain ⟨s,w,o,g1,g2,g3,S⟩:=VK (q:=q) (nmP:=nmP) (st:=st) (B:=B) (b1:=b1) (b5:=b5) (N:=(len ms:Int)) (L:=3+178*i) (by omega) y rfl E A.ft F (by omega) (len (fsI ms i)) 0 (ad C (.row [.int 3,.int (i:Nat),.int (-1),.int (-1),.int (-1),.int (-1)])) false (ad R (.row [nmI ms i,.int 0])) (by omega) (by rw [Dv];omega) Q
   refine (?_:∃s w J o,BU q (.bool b1) (.int (len ms:Int)) (.int (i:Nat)) (cl q i 1) (.int (len (cl q i 1):Int)) (.int ((0:Nat):Int)) nmP (.bool b5) st (ad C (.row [.int 3,.int (i:Nat),.int (-1),.int (-1),.int (-1),.int (-1)])) (.bool false) (.int (i:Nat)) B (.int (i:Nat)) (.int (i:Nat)) (.int (i:Nat)) (.int (i:Nat)) (ad T (.row [nmI ms i,.int (len C:Int)])) (ad R (.row [nmI ms i,.int 0]))=_∧_)
   rw [g1,AL (by omega)]
   rw [Dv] at g2
   have U:∀x,D.strEq (nmI ms i) x=false→lk o x=lk R x:=fun x c=>by
    rw [S.el x c,HL hR.sh];cases lk R x with
    |some u=>rfl
    |none=>simp [c]
   have l:∀j,j<i→D.strEq (nmI ms i) (nmI ms j)=false:=fun j hj=>by rw [A2];exact e j hj
   refine Pw G V I t n (i+1) s _ o w _ (by omega) g3 (by omega) ⟨F,fun x c=>?_⟩ ⟨S.sh,fun j hj g=>?_,fun j hj g=>?_,fun x c=>?_⟩
   ·rw [HL f.it.sh,f.no x fun j hj=>c j (by omega)]
    simp [c i (by omega)]
   ·rcases R2 j i with a|a
    ·rw [U _ (l j a)];exact hR.yes j a g
    ·have:j=i:=by omega
     subst this;exact S.at'
   ·rcases R2 j i with a|a
    ·rw [U _ (l j a)];exact hR.un j a g
    ·have:j=i:=by omega
     subst this;exact absurd d g
   ·rw [U x (c i (by omega))];exact hR.no x fun j hj=>c j (by omega)
end
theorem kG {a c st M:D} {w:Nat→Int} (e:EH a c st=.row [.int 1,.bool true]) (y:TD c) (f:GP c (len c) M w) (g:len c≤9) (z:Kn M st) :
  ∃q b5 C b T R B,BF a c st=.row [.int 2,a,q,.bool b5,st,C,.bool b,T,R]∧0<len C∧BT B∧RS c B (len c) R∧(∀k,Kn B k→Rch c st k)∧Kn B st∧∀j,j<len c→Kn B (nmI c j)→∀r∈rfs c j,Kn B r:=by
 have hv:∀m:Nat,m<len c→FT (cl c m 1):=fun m A=>(f.fo m A).ft
 obtain ⟨q,b5,h,s⟩:=iG (a:=a) (st:=st) y g hv;obtain ⟨B,i,t,l,n,o⟩:=iF a st f g (a:=a) (b:=a) z;rw [tn,e,AC];refine (?_:∃q b5 C b T R B,cond true _ _=_∧_)
 rw [vx,h,AC];have d:RZ a c st (ad Ad (.row [(sl (.row [.int 1,a,q,.bool b5,st]) 4)])) (.bool false)=.row [.int 1,B]:=i;rw [d,AC];have K:∀x:D,lk Ad x=none:=fun x=>rfl
 obtain ⟨E,F,G,H,u,I,J⟩:=Pw (nmP:=a) (st:=st) (b1:=b5) (b5:=b5) f g t s (len c) 0 (ad (ad Ad (.row [(.int 1),(.int (-1)),(.int (-1)),(.int (-1)),(.int (-1)),(.int (-1))])) (.row [(.int 2),(.int (-1)),(.int (-1)),(.int (-1)),(.int (-1)),(.int (-1))])) Ad Ad false 0 (by omega) (by decide) (by show 2≤_;omega) ⟨⟨Sh2.empty,fun k v hv=>by cases hv⟩,fun x _=>rfl⟩ ⟨Sh2.empty,fun j hj=>absurd hj (gk _),fun j hj=>absurd hj (gk _),fun x _=>rfl⟩
 have p:(len q:Int)=len c:=by rw [s.ln]
 rw [←p] at u;exact ⟨q,b5,E,F,G,H,B,u,I,t,J,l,n,o⟩
theorem ZI {x0 x1 x3 C x6 R k:D} {x2 x5:Bool} (a:0<len C):BE x0 x1 (.bool x2) x3 C (.bool x5) x6 R k=match lk R k with|some v=>.row [.int 1,v,.int 0]|none=>.row [.int 1,.int 0,.int 9]:=by
 rw [vI,ifF (by omega)]
 unfold lk;by_cases h:mIx [.str] R (.row [k])<0
 ·rw [ifT h,if_pos h]
 ·rw [ifF h,if_neg h]
end
end Mx
set_option maxRecDepth 4000
namespace Mx
open Go Go.AE
section
variable [Ap]
theorem dG {v:D} (h:Bn v=true):Cx v≠0:=by
 intro a
 have b:GQ v=.row [.int 1,.bool false]:=by
  rw [ap];refine (?_:cond (decide ((sl (BB (l2 (!decide ((Cx v:Int)<1)) _) (.bool false) (.bool false)) 0).toInt=1)) (cond (decide ((sl (BB (l2 (!decide ((Cx v:Int)<1)) _) (.bool false) (.bool false)) 1).toInt<0)) _ _) _=_);rw [SF,a];rfl
 unfold Bn at h;rw [b] at h;cases h
theorem Ya {a b:D} (h:Bn a=true) (c:D.strEq a b=true):eqC b 0 0=false:=by
 have d:=dG h;rw [Xm];have e:Cx b=Cx a:=by unfold Cx;rw [DB.1 c]
 rw [e,ll d]
structure Nu (f:D→Int) (L:List D) (m:Int):Prop where
 nn:0≤m
 le:∀r∈L,f r≤m
 at':m=0∨∃r∈L,f r=m
theorem Nu.uniq {f:D→Int} {L:List D} {m l:Int} (h:Nu f L m) (h':Nu f L l):m=l:=by
 have t:∀{a b},Nu f L a→Nu f L b→a≤b:=fun {a b} J I=>by
  rcases J.at' with e|⟨r,hr,e⟩
  ·have:=I.nn;omega
  ·have:=I.le r hr;omega
 have h1:=t h h';have h2:=t h' h;omega
def mxL (f:D→Int):List D→Int
 |[]=>0
 |r::L=>if mxL f L<f r then f r else mxL f L
theorem Qi {f:D→Int}:∀L:List D,Nu f L (mxL f L)
 |[]=>⟨zw _,(fun r b=>by cases b),.inl rfl⟩
 |r::L=>by
  have h:=Qi (f:=f) L;have c:=h.nn;rw [mxL];split
  ·refine ⟨by omega,fun x a=>?_,.inr ⟨r,zC,rfl⟩⟩
   rcases hP.1 a with e|e
   ·subst e;omega
   ·have:=h.le x e;omega
  ·refine ⟨c,fun x a=>?_,h.at'.imp id fun ⟨y,d,e⟩=>⟨y,zE _ d,e⟩⟩
   rcases hP.1 a with e|e
   ·subst e;omega
   ·exact h.le x e
theorem Hj {f g:D→Int}:∀L:List D,(∀r∈L,f r=g r)→mxL f L=mxL g L
 |[],_=>rfl
 |r::L,h=>by rw [mxL,mxL,Hj L fun x a=>h x (zE _ a),h r zC]
def ixI (a r:D):Nat:=(ixN a (len a) r).toNat
def RGn (a:D):Nat→Nat→Int
 |0,_=>0
 |k+1,i=>rg a i+mxL (fun r=>RGn a k (ixI a r)) (rfs a i)
def RG (a:D) (i:Nat):Int:=RGn a (i+1) i
def rv (a r:D):Int:=RG a (ixI a r)
section
variable {ms M:D} {dp:Nat→Int}
theorem GP.ref' (t:GP ms (len ms) M dp) {i:Nat} (hi:i<len ms) {r:D} (I:r∈rfs ms i):ixI ms r<i∧ixN ms (len ms) r=(ixI ms r:Nat)∧D.strEq (nmI ms (ixI ms r)) r=true∧dp (ixI ms r)<dp i:=by
 obtain ⟨j,hj,l,J,h3⟩:=t.ref hi I;have e:ixI ms r=j:=by unfold ixI;rw [l];simp
 rw [e];exact ⟨hj,l,J,h3⟩
theorem Yf (b:GP ms (len ms) M dp):∀n i k,i≤n→i<k→i<len ms→RGn ms k i=RG ms i:=by
 intro n
 induction n with
 |zero=>
  intro i k c d a;have e:i=0:=by omega
  subst e;obtain ⟨k,rfl⟩:∃j,k=j+1:=⟨k-1,by omega⟩
  unfold RG;rw [RGn,RGn,GD b a];rfl
 |succ n ih=>
  intro i k c d a;obtain ⟨k,rfl⟩:∃j,k=j+1:=⟨k-1,by omega⟩
  unfold RG;rw [RGn,RGn]
  congr 1
  refine Hj _ fun r f=>?_
  obtain ⟨hj,_⟩:=b.ref' a f;rw [ih _ k (by omega) (by omega) (by omega),ih _ i (by omega) (by omega) (by omega)]
theorem I8 (a:GP ms (len ms) M dp) {i:Nat} (hi:i<len ms):RG ms i=rg ms i+mxL (rv ms) (rfs ms i):=by
 have b:=Yf a i i (i+1+1) (L1 _) (by omega) hi
 rw [←b,RGn]
 congr 1
 refine Hj _ fun r c=>?_
 obtain ⟨hj,_⟩:=a.ref' hi c;exact Yf a i _ _ (by omega) (by omega) (by omega)
theorem Pp (a:GP ms (len ms) M dp) {i:Nat} (hi:i<len ms):0≤rg ms i∧rg ms i≤16:=by
 have h:=Qk (v:=fsI ms i) (len (fsI ms i));have few:=(a.fo i hi).ft.few;unfold rg;omega
theorem j3 (b:GP ms (len ms) M dp):∀n i,i≤n→i<len ms→0≤RG ms i∧RG ms i≤16*(i+1):=by
 intro n
 induction n with
 |zero=>
  intro i d a;have g:i=0:=by omega
  subst g;have:=Pp b a;rw [I8 b a,GD b a];show 0≤rg ms 0+0∧rg ms 0+0≤_;omega
 |succ n ih=>
  intro i d a;have j:=Pp b a;rw [I8 b a];have h:=Qi (f:=rv ms) (rfs ms i);have k:=h.nn;refine ⟨by omega,?_⟩
  rcases h.at' with e|⟨r,c,e⟩
  ·omega
  ·obtain ⟨hj,_⟩:=b.ref' a c;have:=ih (ixI ms r) (by omega) (by omega)
   have l:RG ms (ixI ms r)=_:=e;omega
theorem Se {a b:D} (h:D.strEq a b=true):rv ms a=rv ms b:=by unfold rv ixI;rw [Fv h]
theorem Xk (a:GP ms (len ms) M dp) {i:Nat} (hi:i<len ms) (d:len ms≤9) {m:Int} (b:Nu (rv ms) (rfs ms i) m):0≤m∧m≤150∧RG ms i=rg ms i+m:=by
 have e:=(Qi (f:=rv ms) (rfs ms i)).uniq b;have c:=I8 a hi;have g:=j3 a i i (L1 _) hi;have h:=Pp a hi;have j:=b.nn;rw [e] at c;omega
theorem gI (v:GP ms (len ms) M dp) {S l:D} {i:Nat} (hi:i<len ms) (a:l.rows=nms (rfs ms i)) (B:∀r∈rfs ms i,lk S r=some (.int (rv ms r))):∃m,O3 S (.int 0) l=.row [.int 1,.int m]∧Nu (rv ms) (rfs ms i) m:=by
 have C:=Ii (v.fo i hi).ft _ (L1 _);have few:=(v.fo i hi).ft.few;have x:len l=(rfs ms i).length:=by show l.rows.length=_;rw [a];simp [nms]
 have E:(rfs ms i).length≤160:=by unfold rfs;omega
 have d:∀j (hj:j<(rfs ms i).length),cl l j 0=(rfs ms i)[j]:=fun j hj=>Mk a hj
 have F:∀k q (m:Int),q+k=len l→0≤m→(∀j (hj:j<(rfs ms i).length),j<q→rv ms (rfs ms i)[j]≤m)→(m=0∨∃r∈rfs ms i,rv ms r=m)→∃w,IP l (.int (q:Nat)) S (.int m)=.row [.int 1,.int w]∧Nu (rv ms) (rfs ms i) w:=by
  intro k
  induction k with
  |zero=>
   intro q m h y b f;rw [eL,ifF (by omega)]
   refine ⟨m,rfl,y,fun r p=>?_,f⟩
   obtain ⟨j,hj,rfl⟩:=ue p;exact b j hj (by omega)
  |succ k ih=>
   intro q m h y b f;have s:q<(rfs ms i).length:=by omega
   obtain ⟨z,G,t,_⟩:=Mi (l:=l) (i:=q) (by omega) (by omega)
   have c:(rfs ms i)[q]∈rfs ms i:=zF s
   have nx:∀g,m≤g→rv ms (rfs ms i)[q]≤g→(g=m∨rv ms (rfs ms i)[q]=g)→∃w,IP l (.int ((q+1:Nat):Int)) S (.int g)=.row [.int 1,.int w]∧Nu (rv ms) (rfs ms i) w:=fun g u p H=>by
    refine ih (q+1) g (by omega) (by omega) (fun j hj I=>?_) ?_
    ·rcases R2 j q with o|o
     ·have:=b j hj o;omega
     ·have:j=q:=by omega
      subst this;exact p
    ·rcases H with e|e
     ·subst e;exact f
     ·exact .inr ⟨_,c,e⟩
   rw [eL,ifT (by omega),ifF (by omega),ifF (by omega),G,AL (by omega),AC]
   refine (?_:∃w:Int,cond (decide (z<0)) _ _=_∧_)
   by_cases n:z<0
   ·obtain ⟨J,K⟩:=Ef (B _ c);rw [ifT n,d q s,ifF J,K];refine (?_:∃w:Int,cond (decide (m<rv ms (rfs ms i)[q])) _ _=_∧_)
    by_cases u:m<rv ms (rfs ms i)[q]
    ·rw [ifT u];exact nx _ (by omega) (by omega) (.inr rfl)
    ·rw [ifF u];exact nx _ (by omega) (by omega) (.inl rfl)
   ·rw [ifF n];obtain ⟨j,hj,A⟩:=t n;rw [d q s,d j (by omega)] at A
    have:=b j (by omega) hj
    refine nx m (by omega) ?_ (.inl rfl)
    rw [Se A];exact this
 rw [tA];exact F (len l) 0 0 (by omega) (by omega) (fun j hj h=>absurd h (gk _)) (.inl rfl)
structure SS (ms B:D) (i:Nat) (S:D):Prop where
 sh:Sh2 S
 yes:∀j,j<i→Kn B (nmI ms j)→lk S (nmI ms j)=some (.int (RG ms j))
 un:∀j,j<i→¬Kn B (nmI ms j)→lk S (nmI ms j)=none
 no:∀x,(∀j,j<i→D.strEq (nmI ms j) x=false)→lk S x=none
theorem SS.zero {ms B:D}:SS ms B 0 Ad:=⟨Sh2.empty,fun j hj=>absurd hj (gk _),fun j hj=>absurd hj (gk _),fun x _=>rfl⟩
def SR (ms B:D) (F:Int→D→D) (p:Nat):Prop:=∀(i:Nat) S,p≤i→i≤len ms→SS ms B i S→∃a,F i S=.row [.int 1,a]∧SS ms B (len ms) a
section
variable {B R v2 v3 v5 v6 v8:D} {v4 v7:Bool}
theorem SS.none {i:Nat} {S:D} (I:GP ms (len ms) M dp) (hi:i<len ms) (l:SS ms B i S) (J:¬Kn B (nmI ms i)):SS ms B (i+1) S:=by
 have t:∀j,j<i→D.strEq (nmI ms j) (nmI ms i)=false:=fun j hj=>I.dist j i hj hi
 refine ⟨l.sh,fun j hj r=>?_,fun j hj r=>?_,fun x hx=>l.no x fun j hj=>hx j (by omega)⟩
 ·rcases R2 j i with h|h
  ·exact l.yes j h r
  ·have:j=i:=by omega
   subst this;exact absurd r J
 ·rcases R2 j i with h|h
  ·exact l.un j h r
  ·have:j=i:=by omega
   subst this;exact l.no _ t
theorem SS.some {i:Nat} {S:D} (hG:GP ms (len ms) M dp) (hi:i<len ms) (r:SS ms B i S) (hk:Kn B (nmI ms i)):SS ms B (i+1) (ad S (.row [nmI ms i,.int (RG ms i)])):=by
 have t:∀j,j<i→D.strEq (nmI ms j) (nmI ms i)=false:=fun j hj=>hG.dist j i hj hi
 have l:∀j,j<i→D.strEq (nmI ms i) (nmI ms j)=false:=fun j hj=>by rw [A2];exact t j hj
 have fl:∀x,D.strEq (nmI ms i) x=false→lk (ad S (.row [nmI ms i,.int (RG ms i)])) x=lk S x:=fun x J=>by
  rw [HL r.sh];cases lk S x with
  |some u=>rfl
  |none=>simp [J]
 refine ⟨r.sh.ad,fun j hj hk=>?_,fun j hj I=>?_,fun x J=>?_⟩
 ·rcases R2 j i with h|h
  ·rw [fl _ (l j h)];exact r.yes j h hk
  ·have:j=i:=by omega
   subst this;rw [HL r.sh,r.no _ t];simp [BW]
 ·rcases R2 j i with h|h
  ·rw [fl _ (l j h)];exact r.un j h I
  ·have:j=i:=by omega
   subst this;exact absurd hk I
 ·rw [fl x (J i (by omega))];exact r.no x fun j hj=>J j (by omega)
theorem iZ (a:0<len v6) (hR:RS ms B (len ms) R) {i:Nat} (hi:i<len ms):BE v2 v3 (.bool v4) v5 v6 (.bool v7) v8 R (nmI ms i)=(if mIx [.str] B (.row [nmI ms i])<0 then .row [.int 1,.int 0,.int 9] else .row [.int 1,.int (rg ms i),.int 0]):=by
 rw [ZI a];by_cases h:mIx [.str] B (.row [nmI ms i])<0
 ·rw [if_pos h,hR.un i hi (fun b=>b h)]
 ·rw [if_neg h,hR.yes i hi h]
theorem CC (a:GP ms (len ms) M dp) (z:len ms≤9) (A:0<len v6) (C:BT B) (hR:RS ms B (len ms) R) (e:∀j,j<len ms→Kn B (nmI ms j)→∀r∈rfs ms j,Kn B r) {F G:Int→D→D} {p:Nat} (f:SR ms B G (p+1)) (S:D) (u:∀i,F i S=ST ms v2 v3 v4 v5 v6 v7 v8 R F G i S) :
  ∀n (i:Nat),i+n=len ms→p≤i→SS ms B i S→∃s,F i S=.row [.int 1,s]∧SS ms B (len ms) s
 |0,i,h,I,b=>by
  have:i=len ms:=h;subst this;rw [u];unfold ST;rw [ifF (by omega)];exact ⟨S,rfl,b⟩
 |n+1,i,h,I,b=>by
  have hi:i<len ms:=by omega
  have v:∀j,j<i→D.strEq (nmI ms j) (nmI ms i)=false:=fun j hj=>a.dist j i hj hi
  rw [u];unfold ST;have w:=iZ (v2:=v2) (v3:=v3) (v4:=v4) (v5:=v5) (v7:=v7) (v8:=v8) A hR hi;have g:BE v2 v3 (.bool v4) v5 v6 (.bool v7) v8 R (cl ms i 0)=_:=w;rw [ifT (by omega),ifF (by omega),g,AL (by omega)]
  by_cases t:mIx [.str] B (.row [nmI ms i])<0
  ·rw [if_pos t,AC];refine (?_:∃s,cond (decide ((9:Int)=0)) _ _=_∧_)
   rw [ifF (by decide)]
   exact CC a z A C hR e f S u n (i+1) (by omega) (by omega) (b.none a hi (fun J=>J t))
  ·rw [if_neg t,AC];have k:Kn B (nmI ms i):=t;obtain ⟨l,o,c⟩:=Kg (v0:=cl ms i 0) (a.fo i hi).ft;have d:AK (cl ms i 0) (cl ms i 1)=.row [.int 1,l]:=o
   obtain ⟨m,x,K⟩:=gI a (S:=S) hi c fun r E=>by
    obtain ⟨hj,O,H,_⟩:=a.ref' hi E;have L:=e i hi k r E;have y:Kn B (nmI ms (ixI ms r)):=L.congr C.sh (by rw [A2];exact H)
    rw [←GI b.sh H];exact b.yes _ hj y
   have q:O3 S (.int 0) (sl (.row [.int 1,l]) 1)=.row [.int 1,.int m]:=x;obtain ⟨m0,m1,m2⟩:=Xk a hi z K;have N:=Pp a hi;rw [d,q];refine (?_:∃s,cond (decide (mIx [.str] S (.row [nmI ms i])<0)) (G ((i+1:Nat):Int) (ad S (.row [nmI ms i,.int (IntKind.wrap .i64 (rg ms i+m))]))) _=_∧_)
   rw [ifT (LB (b.no _ v)),A4 (by omega) (by omega),←m2]
   exact f (i+1) _ (by omega) (by omega) (b.some a hi k)
section
variable (v2 v3 v5 v8:D) (v4 v7:Bool)
theorem yI (b:len ms≤9):SR ms B (fun i S=>Ki ms (.int i) v2 v3 (.bool v4) v5 v6 (.bool v7) v8 R S) 9:=by
 intro i S c d a;have:i=len ms:=by omega
 subst this;show ∃e,Ki _ _ _ _ _ _ _ _ _ _ _=_∧_
 rw [kV,ifF (by omega)];exact ⟨S,rfl,a⟩
theorem sm9 (c:GP ms (len ms) M dp) (b:len ms≤9) (d:0<len v6) (e:BT B) (hR:RS ms B (len ms) R) (a:∀j,j<len ms→Kn B (nmI ms j)→∀r∈rfs ms j,Kn B r):SR ms B (fun i S=>OS ms (.int i) v2 v3 (.bool v4) v5 v6 (.bool v7) v8 R S) 8:=fun i S f h g=>
 CC (v2:=v2) (v3:=v3) (v4:=v4) (v5:=v5) (v7:=v7) (v8:=v8) c b d e hR a (F:=fun i S=>OS ms (.int i) v2 v3 (.bool v4) v5 v6 (.bool v7) v8 R S) (G:=fun i S=>Ki ms (.int i) v2 v3 (.bool v4) v5 v6 (.bool v7) v8 R S) (yI v2 v3 v5 v8 v4 v7 b) S (fun i=>oN ms i v2 v3 v4 v5 v6 v7 v8 R S) (len ms-i) i (by omega) f g
theorem sm8 (b:GP ms (len ms) M dp) (c:len ms≤9) (d:0<len v6) (e:BT B) (hR:RS ms B (len ms) R) (a:∀j,j<len ms→Kn B (nmI ms j)→∀r∈rfs ms j,Kn B r):SR ms B (fun i S=>O6 ms (.int i) v2 v3 (.bool v4) v5 v6 (.bool v7) v8 R S) 7:=fun i S f h g=>
 CC (v2:=v2) (v3:=v3) (v4:=v4) (v5:=v5) (v7:=v7) (v8:=v8) b c d e hR a (F:=fun i S=>O6 ms (.int i) v2 v3 (.bool v4) v5 v6 (.bool v7) v8 R S) (G:=fun i S=>OS ms (.int i) v2 v3 (.bool v4) v5 v6 (.bool v7) v8 R S) (sm9 v2 v3 v5 v8 v4 v7 b c d e hR a) S (fun i=>qZ ms i v2 v3 v4 v5 v6 v7 v8 R S) (len ms-i) i (by omega) f g
theorem sm7 (b:GP ms (len ms) M dp) (c:len ms≤9) (d:0<len v6) (e:BT B) (hR:RS ms B (len ms) R) (a:∀j,j<len ms→Kn B (nmI ms j)→∀r∈rfs ms j,Kn B r):SR ms B (fun i S=>Ou ms (.int i) v2 v3 (.bool v4) v5 v6 (.bool v7) v8 R S) 6:=fun i S f h g=>
 CC (v2:=v2) (v3:=v3) (v4:=v4) (v5:=v5) (v7:=v7) (v8:=v8) b c d e hR a (F:=fun i S=>Ou ms (.int i) v2 v3 (.bool v4) v5 v6 (.bool v7) v8 R S) (G:=fun i S=>O6 ms (.int i) v2 v3 (.bool v4) v5 v6 (.bool v7) v8 R S) (sm8 v2 v3 v5 v8 v4 v7 b c d e hR a) S (fun i=>ua ms i v2 v3 v4 v5 v6 v7 v8 R S) (len ms-i) i (by omega) f g
theorem sm6 (b:GP ms (len ms) M dp) (c:len ms≤9) (d:0<len v6) (e:BT B) (hR:RS ms B (len ms) R) (a:∀j,j<len ms→Kn B (nmI ms j)→∀r∈rfs ms j,Kn B r):SR ms B (fun i S=>OA ms (.int i) v2 v3 (.bool v4) v5 v6 (.bool v7) v8 R S) 5:=fun i S f h g=>
 CC (v2:=v2) (v3:=v3) (v4:=v4) (v5:=v5) (v7:=v7) (v8:=v8) b c d e hR a (F:=fun i S=>OA ms (.int i) v2 v3 (.bool v4) v5 v6 (.bool v7) v8 R S) (G:=fun i S=>Ou ms (.int i) v2 v3 (.bool v4) v5 v6 (.bool v7) v8 R S) (sm7 v2 v3 v5 v8 v4 v7 b c d e hR a) S (fun i=>xS ms i v2 v3 v4 v5 v6 v7 v8 R S) (len ms-i) i (by omega) f g
theorem sm5 (b:GP ms (len ms) M dp) (c:len ms≤9) (d:0<len v6) (e:BT B) (hR:RS ms B (len ms) R) (a:∀j,j<len ms→Kn B (nmI ms j)→∀r∈rfs ms j,Kn B r):SR ms B (fun i S=>N9 ms (.int i) v2 v3 (.bool v4) v5 v6 (.bool v7) v8 R S) 4:=fun i S f h g=>
 CC (v2:=v2) (v3:=v3) (v4:=v4) (v5:=v5) (v7:=v7) (v8:=v8) b c d e hR a (F:=fun i S=>N9 ms (.int i) v2 v3 (.bool v4) v5 v6 (.bool v7) v8 R S) (G:=fun i S=>OA ms (.int i) v2 v3 (.bool v4) v5 v6 (.bool v7) v8 R S) (sm6 v2 v3 v5 v8 v4 v7 b c d e hR a) S (fun i=>qk ms i v2 v3 v4 v5 v6 v7 v8 R S) (len ms-i) i (by omega) f g
theorem sm4 (b:GP ms (len ms) M dp) (c:len ms≤9) (d:0<len v6) (e:BT B) (hR:RS ms B (len ms) R) (a:∀j,j<len ms→Kn B (nmI ms j)→∀r∈rfs ms j,Kn B r):SR ms B (fun i S=>OW ms (.int i) v2 v3 (.bool v4) v5 v6 (.bool v7) v8 R S) 3:=fun i S f h g=>
 CC (v2:=v2) (v3:=v3) (v4:=v4) (v5:=v5) (v7:=v7) (v8:=v8) b c d e hR a (F:=fun i S=>OW ms (.int i) v2 v3 (.bool v4) v5 v6 (.bool v7) v8 R S) (G:=fun i S=>N9 ms (.int i) v2 v3 (.bool v4) v5 v6 (.bool v7) v8 R S) (sm5 v2 v3 v5 v8 v4 v7 b c d e hR a) S (fun i=>nX ms i v2 v3 v4 v5 v6 v7 v8 R S) (len ms-i) i (by omega) f g
theorem sm3 (b:GP ms (len ms) M dp) (c:len ms≤9) (d:0<len v6) (e:BT B) (hR:RS ms B (len ms) R) (a:∀j,j<len ms→Kn B (nmI ms j)→∀r∈rfs ms j,Kn B r):SR ms B (fun i S=>OO ms (.int i) v2 v3 (.bool v4) v5 v6 (.bool v7) v8 R S) 2:=fun i S f h g=>
 CC (v2:=v2) (v3:=v3) (v4:=v4) (v5:=v5) (v7:=v7) (v8:=v8) b c d e hR a (F:=fun i S=>OO ms (.int i) v2 v3 (.bool v4) v5 v6 (.bool v7) v8 R S) (G:=fun i S=>OW ms (.int i) v2 v3 (.bool v4) v5 v6 (.bool v7) v8 R S) (sm4 v2 v3 v5 v8 v4 v7 b c d e hR a) S (fun i=>mH ms i v2 v3 v4 v5 v6 v7 v8 R S) (len ms-i) i (by omega) f g
theorem sm2 (b:GP ms (len ms) M dp) (c:len ms≤9) (d:0<len v6) (e:BT B) (hR:RS ms B (len ms) R) (a:∀j,j<len ms→Kn B (nmI ms j)→∀r∈rfs ms j,Kn B r):SR ms B (fun i S=>NY ms (.int i) v2 v3 (.bool v4) v5 v6 (.bool v7) v8 R S) 1:=fun i S f h g=>
 CC (v2:=v2) (v3:=v3) (v4:=v4) (v5:=v5) (v7:=v7) (v8:=v8) b c d e hR a (F:=fun i S=>NY ms (.int i) v2 v3 (.bool v4) v5 v6 (.bool v7) v8 R S) (G:=fun i S=>OO ms (.int i) v2 v3 (.bool v4) v5 v6 (.bool v7) v8 R S) (sm3 v2 v3 v5 v8 v4 v7 b c d e hR a) S (fun i=>mQ ms i v2 v3 v4 v5 v6 v7 v8 R S) (len ms-i) i (by omega) f g
theorem iS (c:GP ms (len ms) M dp) (d:len ms≤9) (e:0<len v6) (f:BT B) (hR:RS ms B (len ms) R) (b:∀j,j<len ms→Kn B (nmI ms j)→∀r∈rfs ms j,Kn B r) {a st:D}:∃S,Nk a ms st v2 v3 (.bool v4) v5 v6 (.bool v7) v8 R=.row [.int 1,S]∧SS ms B (len ms) S:=by
 rw [nS];exact CC (v2:=v2) (v3:=v3) (v4:=v4) (v5:=v5) (v7:=v7) (v8:=v8) c d e f hR b (F:=fun i S=>Vn ms (.int i) v2 v3 (.bool v4) v5 v6 (.bool v7) v8 R) (G:=fun i S=>NY ms (.int i) v2 v3 (.bool v4) v5 v6 (.bool v7) v8 R S) (sm2 v2 v3 v5 v8 v4 v7 c d e f hR b) Ad (fun i=>xD ms i v2 v3 v4 v5 v6 v7 v8 R) (len ms) 0 (by omega) (L1 _) .zero
end
end
end
end
end Mx
set_option maxRecDepth 4000
namespace Mx
open Go Go.AE
section
variable [Ap]
def TG (a b:D):Prop:=sl a 0=sl b 0
theorem tgc {c:Bool} {a b d e:D} (h:TG a d) (k:TG b e):TG (cond c a b) (cond c d e):=by cases c;exact k;exact h
theorem tg1 {x:D} {l a:List D}:TG (.row (x::l)) (.row (x::a)):=rfl
theorem tg0:TG (.row []) (.row []):=rfl
def Sc (a b:D):Prop:=a=.row [.int 2]→b=.row [.int 2]
theorem scF {l:List D} {b:D}:Sc (.row (.int 1::l)) b:=fun h=>by cases h
theorem sc0 {b:D}:Sc (.row []) b:=fun h=>by cases h
theorem sc2:Sc (.row [.int 2]) (.row [.int 2]):=id
theorem scc {c:Bool} {a b d e:D} (h:Sc a d) (k:Sc b e):Sc (cond c a b) (cond c d e):=by cases c;exact k;exact h
theorem scd {p:Prop} [Decidable p] {a b d e:D} (h:p→Sc a d) (k:¬p→Sc b e):Sc (cond (decide p) a b) (cond (decide p) d e):=by
 by_cases c:p
 ·rw [ifT c,ifT c];exact h c
 ·rw [ifF c,ifF c];exact k c
theorem scM {p q:Prop} [Decidable p] [Decidable q] {l:List D} {b d a:D} (h:¬p→¬q∧Sc b a):Sc (cond (decide p) (.row (.int 1::l)) b) (cond (decide q) d a):=by
 by_cases c:p
 ·rw [ifT c];exact scF
 ·rw [ifF c,ifF (h c).1];exact (h c).2
theorem scG {F d:D} {l e:List D} {x f:D} (i:Jm F∨F=.row [.int 2]) (h:Sc F d) :
  Sc (cond (decide ((sl F 0).toInt=1)) (.row (.int 1::l)) (cond (decide ((sl F 0).toInt=2)) (.row [.int 2]) x)) (cond (decide ((sl d 0).toInt=1)) (.row (.int 1::e)) (cond (decide ((sl d 0).toInt=2)) (.row [.int 2]) f)):=by
 rcases i with ⟨a,b,c,g⟩|g
 ·rw [g];exact scF
 ·intro _;rw [h g];rfl
def Le (M a:D):Prop:=∀k,Kn M k→Kn a k∧cl a (mIx [.str] a (.row [k])) 1=cl M (mIx [.str] M (.row [k])) 1
theorem Le.refl {M:D}:Le M M:=fun k h=>⟨h,rfl⟩
theorem Le.trans {A B C:D} (h:Le A B) (g:Le B C):Le A C:=fun k l=>⟨(g k (h k l).1).1,(g k (h k l).1).2.trans (h k l).2⟩
theorem Le.ad {M x v:D} (t:∀r∈M.rows,∃x l,r=.row (x::l)):Le M (AE.ad M (.row [x,v])):=fun k I=>by
 unfold Kn at I ⊢;have J:0≤mIx [.str] M (.row [k]):=by omega
 rw [Kb t,if_pos J];refine ⟨I,?_⟩;rw [EO J,if_neg];rw [Cu t];have:=D1 (p:=fun i=>D.strEq (cl M i 0) k) (k:=len M) (i:=0)
 omega
section
variable {v0 v1 v2 v3 v4 v7 w0 w1 w2 w3 w4 w7:D} {v5 w5:Int}
theorem sS {a:D} {b lo hi n:Int}:TG (CZ v0 v1 v2 v3 v4 (.int v5) (.int b) v7 a (.int lo) (.int hi) (m1 n) (.bool false)) (CZ w0 w1 w2 w3 w4 (.int w5) (.int b) w7 a (.int lo) (.int hi) (m1 n) (.bool false)):=by
 rw [Th,Th];exact tgc tg1 tg1
theorem fe {a:D} {b lo hi n m:Int}:TG (CZ v0 v1 v2 v3 v4 (.int v5) (.int b) v7 a (.int lo) (.int hi) (m2 n m) (.bool false)) (CZ w0 w1 w2 w3 w4 (.int w5) (.int b) w7 a (.int lo) (.int hi) (m2 n m) (.bool false)):=by
 rw [S4,S4];exact tgc tg1 tg1
theorem W3 {a M t:D} {b:Bool} {c:Int} (e:len t≤1000000):TG (DI v0 v1 v2 v3 v4 (.int v5) (.int c) v7 a M t (.bool b)) (DI w0 w1 w2 w3 w4 (.int w5) (.int c) w7 a M t (.bool b)):=by
 rw [Xv,Xv]
 have d:∀k i,i+k=len t→TG (LO t (.bool b) (.int (i:Nat)) v0 v1 v2 (.int v5) (.int c) v7 a v3 v4 M) (LO t (.bool b) (.int (i:Nat)) w0 w1 w2 (.int w5) (.int c) w7 a w3 w4 M):=by
  intro k
  induction k with
  |zero=>
   intro i h;rw [OZ t b i v0,OZ t b i w0,ifF (by omega),ifF (by omega)];exact tg1
  |succ k ih=>
   intro i h;rw [OZ t b i v0,OZ t b i w0,AL (by omega)]
   exact tgc (tgc tg0 (tgc tg1 (ih _ (by omega)))) tg1
 exact d (len t) 0 (by omega)
section
variable {v9 v18 v19 v20 v21:D} {v10 v11 v14 v15 v16 v22 v23:Int} {v12 v13:Bool}
theorem gU {a t:D} {b base:Int} (e:len t≤1000) :
  TG (IE v0 v1 v2 v3 v4 (.int v5) (.int b) v7 a v9 (.int v10) (.int v11) (.bool v12) (.bool v13) (.int v14) (.int v15) (.int base) t v18 v19 v20 v21 (.int v22) (.int v23))
   (IE w0 w1 w2 w3 w4 (.int w5) (.int b) w7 a v9 (.int v10) (.int v11) (.bool v12) (.bool v13) (.int v14) (.int v15) (.int base) t v18 v19 v20 v21 (.int v22) (.int v23)):=by
 rw [Zj v0,Zj w0];have c:sl (DI v0 v1 v2 v3 v4 (.int v5) (.int b) v7 a (sl (Bm (sb a 0 b)) 1) B0 (.bool true)) 0=sl (DI w0 w1 w2 w3 w4 (.int w5) (.int b) w7 a (sl (Bm (sb a 0 b)) 1) B0 (.bool true)) 0:=W3 (by decide)
 have d:sl (DI v0 v1 v2 v3 v4 (.int v5) (.int b) v7 a (sl (Bm (sb a 0 b)) 1) (ct Ad t) (.bool (false&&decide ((len t:Int)=0)))) 0=sl (DI w0 w1 w2 w3 w4 (.int w5) (.int b) w7 a (sl (Bm (sb a 0 b)) 1) (ct Ad t) (.bool (false&&decide ((len t:Int)=0)))) 0:=W3 (by rw [CV];omega)
 rw [c,d]
 repeat' (first|refine tgc ?_ ?_|exact tg1|exact tg0)
theorem VG {b c:D} {d a hi:Int} (e:∀k,Kn v3 k→Kn w3 k) (g:len c≤1000) (f:∀j:Nat,j<len c→(∃n,cl c j 0=.int n)∧∃n,cl c j 1=.int n):∀k i (lo:Int),i+k=len c→
  Sc (Od (.int lo) c (.int (i:Nat)) v0 v1 v2 (.int v5) (.int d) v7 b v3 v4 (.int a) (.int hi)) (Od (.int lo) c (.int (i:Nat)) w0 w1 w2 (.int w5) (.int d) w7 b w3 w4 (.int a) (.int hi))
 |0,i,lo,h=>by
  rw [Oh lo c i v0,Oh lo c i w0,ifF (by omega),ifF (by omega)];exact sc2
 |k+1,i,lo,h=>by
  obtain ⟨⟨n,l⟩,⟨m,o⟩⟩:=f i (by omega)
  have p:sl (CZ v0 v1 v2 v3 v4 (.int v5) (.int d) v7 b (.int lo) (.int hi) (ad (ad Ad (.row [(.int n)])) (.row [(.int m)])) (.bool false)) 0=sl (CZ w0 w1 w2 w3 w4 (.int w5) (.int d) w7 b (.int lo) (.int hi) (ad (ad Ad (.row [(.int n)])) (.row [(.int m)])) (.bool false)) 0:=fe;rw [Oh lo c i v0,Oh lo c i w0,AL (by omega),l,o,p]
  exact scc (scc sc0 (scc scF (scc (scM fun q=>⟨e _ q,VG e g f k (i+1) _ (by omega)⟩) sc0))) sc2
theorem iH {v:D} {n:Nat} {a:D} (e:∀k,Kn v3 k→Kn w3 k) (hv:FT v) (f:n≤len v) (g:DN v n) (b:len v21≤1000) (i:∀j:Nat,j<len v21→(∃n,cl v21 j 0=.int n)∧∃n,cl v21 j 1=.int n) :
  Sc (KF v0 v1 v2 v3 v4 (.int v5) (.int (n:Nat)) v7 v v9 (.int v10) (.int v11) (.bool v12) (.bool v13) (.int v14) (.int v15) (.int v16) a v18 v19 v20 v21 (.int v22) (.int v23))
   (KF w0 w1 w2 w3 w4 (.int w5) (.int (n:Nat)) w7 v v9 (.int v10) (.int v11) (.bool v12) (.bool v13) (.int v14) (.int v15) (.int v16) a v18 v19 v20 v21 (.int v22) (.int v23)):=by
 have r:=hv.few;rw [ZD v0,ZD w0,X1 (by omega) f g]
 refine scc sc0 (scc sc0 (scc (scd (fun _=>scc scF sc0) fun h=>scc (scc (scc scF (scc scF ?_)) scF) sc0) sc0))
 have h':¬mIx [.str] (AO v n) (.row [v19])<0:=h;rcases En (v:=v) (nm:=v19) n with ⟨l,_⟩|⟨q,s,t,u,w,x,m,o⟩
 ·exact absurd l h'
 ·obtain ⟨p,c⟩:=hv.i5 q (by omega)
  obtain ⟨y,d⟩:=Vr hv (j:=q) (by omega)
  rw [show sl (.row [.int 1,AO v n]) 1=AO v n from rfl,m,o,c,d]
  exact VG e b i (len v21) 0 p (by omega)
end
end
end
end Mx
set_option maxRecDepth 4000
namespace Mx
open Go Go.AE
section
variable [Ap]
section
variable {v0 v1 v2 v3 v4 v7 w0 w1 w2 w3 w4 w7:D} {v5 w5:Int}
theorem jZ {v:D} {i:Nat} (hv:FT v) (hi:i<len v) (w:DN v i) (x:Le v3 w3) (y:Le v4 w4):Sc (Ra v0 v1 v2 v3 v4 (.int v5) (.int (i:Nat)) v7 v (cl v i 0) (cl v i 1) (cl v i 2) (cl v i 3) (cl v i 4) (cl v i 5) (cl v i 6) (cl v i 7) (cl v i 8) (cl v i 9) (cl v i 10) (cl v i 11) (cl v i 12) (cl v i 13) (cl v i 14))
  (Ra w0 w1 w2 w3 w4 (.int w5) (.int (i:Nat)) w7 v (cl v i 0) (cl v i 1) (cl v i 2) (cl v i 3) (cl v i 4) (cl v i 5) (cl v i 6) (cl v i 7) (cl v i 8) (cl v i 9) (cl v i 10) (cl v i 11) (cl v i 12) (cl v i 13) (cl v i 14)):=by
 obtain ⟨o,M⟩:=hv.i1 i hi;obtain ⟨g,N⟩:=hv.i2 i hi;obtain ⟨p,O⟩:=hv.b3 i hi;obtain ⟨q,P⟩:=hv.b4 i hi;obtain ⟨d,Q⟩:=hv.i5 i hi;obtain ⟨e,R⟩:=hv.i6 i hi;obtain ⟨r,S⟩:=hv.i7 i hi;obtain ⟨a,s⟩:=hv.i13 i hi;obtain ⟨b,t⟩:=hv.i14 i hi;have few:=hv.few;have T:=hv.len8 i hi;have u:=hv.len12 i hi;have f:=hv.case i hi;rw [M,N,O,P,Q,R,S,s,t];generalize cl v i 0=a0;generalize cl v i 8=a8 at T ⊢;generalize cl v i 9=a9;generalize cl v i 10=a10;generalize cl v i 11=a11;generalize cl v i 12=a12 at u f ⊢;obtain ⟨F0,U,z,A,t0⟩:∃F c,IE v0 v1 v2 v3 v4 (.int v5) (.int (i:Nat)) v7 v a0 (.int o) (.int g) (.bool p) (.bool q) (.int d) (.int e) (.int r) a8 a9 a10 a11 a12 (.int a) (.int b)=F∧IE w0 w1 w2 w3 w4 (.int w5) (.int (i:Nat)) w7 v a0 (.int o) (.int g) (.bool p) (.bool q) (.int d) (.int e) (.int r) a8 a9 a10 a11 a12 (.int a) (.int b)=c∧sl F 0=sl c 0:=⟨_,_,rfl,rfl,gU (by omega)⟩
 obtain ⟨F3,V,B,k3,t3,W⟩:∃F c,KF v0 v1 v2 v3 v4 (.int v5) (.int (i:Nat)) v7 v a0 (.int o) (.int g) (.bool p) (.bool q) (.int d) (.int e) (.int r) a8 a9 a10 a11 a12 (.int a) (.int b)=F∧KF w0 w1 w2 w3 w4 (.int w5) (.int (i:Nat)) w7 v a0 (.int o) (.int g) (.bool p) (.bool q) (.int d) (.int e) (.int r) a8 a9 a10 a11 a12 (.int a) (.int b)=c∧Sc F c∧(Jm F∨F=.row [.int 2]):=
  ⟨_,_,rfl,rfl,iH (fun k h=>(x k h).1) hv (by omega) w (by omega) f,Or.imp id And.left (ZG hv (by omega) w (by omega) f)⟩
 have x2:∀lo hi n m:Int,∃F c,CZ v0 v1 v2 v3 v4 (.int v5) (.int (i:Nat)) v7 v (.int lo) (.int hi) (ad (ad Ad (.row [(.int n)])) (.row [(.int m)])) (.bool false)=F∧CZ w0 w1 w2 w3 w4 (.int w5) (.int (i:Nat)) w7 v (.int lo) (.int hi) (ad (ad Ad (.row [(.int n)])) (.row [(.int m)])) (.bool false)=c∧sl F 0=sl c 0:=fun lo hi n m=>⟨_,_,rfl,rfl,fe⟩
 have x1:∀lo hi n:Int,∃F c,CZ v0 v1 v2 v3 v4 (.int v5) (.int (i:Nat)) v7 v (.int lo) (.int hi) (ad Ad (.row [(.int n)])) (.bool false)=F∧CZ w0 w1 w2 w3 w4 (.int w5) (.int (i:Nat)) w7 v (.int lo) (.int hi) (ad Ad (.row [(.int n)])) (.bool false)=c∧sl F 0=sl c 0:=fun lo hi n=>⟨_,_,rfl,rfl,sS⟩
 obtain ⟨F1,X,C,k1,t1⟩:=x2 0 (IntKind.wrap .i64 ((ari .shl .i64 1 g)-1)) d e;obtain ⟨F2,Y,E,k2,t2⟩:=x1 0 (IntKind.wrap .i64 ((ari .shl .i64 1 g)-1)) d;obtain ⟨F5,Z,G,k5,t5⟩:=x2 0 34359738367 d e;obtain ⟨F7,aa,H,k7,t7⟩:=x1 0 4294967295 b;obtain ⟨F8,ab,I,k8,t8⟩:=x1 2 1048576 e;obtain ⟨F9,ac,J,k9,t9⟩:=x1 0 1048576 e;obtain ⟨ae,K,j,k10,t10⟩:=x1 0 255 d;obtain ⟨af,L,l,k11,t11⟩:=x1 1 3 a;rw [X0 v0 v1 v2 v3 v4 _ _ _ _ _ _ _ _ _ _ _ _ _ _ _ _ _ _ _ z C E B rfl G rfl H I J j l,X0 w0 w1 w2 w3 w4 _ _ _ _ _ _ _ _ _ _ _ _ _ _ _ _ _ _ _ A k1 k2 k3 rfl k5 rfl k7 k8 k9 k10 k11,t0,t1,t2,t5,t7,t8,t9,t10,t11];clear z A C k1 E k2 B k3 G k5 H k7 I k8 J k9 j k10 l k11
 repeat' (first|refine scc ?_ ?_|exact scF|exact sc0|exact sc2)
 all_goals first|exact scG W t3 | (refine scM fun h=>⟨(x _ h).1,?_⟩) | (refine scM fun h=>⟨(y _ h).1,?_⟩;rw [(y _ h).2])
 all_goals repeat' (first|refine scc ?_ ?_|exact scF|exact sc0|exact sc2)
end
end
end Mx
set_option maxRecDepth 4000
namespace Mx
open Go Go.AE
section
variable [Ap]
theorem Q4 {l M N f g j k m:D} {o p:Int} {i:Nat} {b c:Bool} {n a z:Int} (t:len l≤1000) (hi:i<len l) (u:0≤n) (q:E3 (sb l 0 (i:Nat)) (cl l i 0)=.row [.int 1,.int z])
  (m1:¬mIx [.str] M (.row [cl l i 0])<0) (m2:¬mIx [.str] N (.row [cl l i 0])<0) (r:cl M (mIx [.str] M (.row [cl l i 0])) 1=.int a) (s:cl N (mIx [.str] N (.row [cl l i 0])) 1=.bool c) :
  CA l (.int (i:Nat)) f g j (.int o) (.int p) k m M N (.bool b) (.int n)=CA l (.int ((i+1:Nat):Int)) f g j (.int o) (.int p) k m M N (.bool (if z<0 then b&&c else b)) (.int (if z<0∧n<a then a else n)):=by
 rw [RK,ifT (by omega),ifF (by omega),ifF (by omega),q,AL (by omega),AC]
 refine (?_:cond (decide (z<0)) _ _=_);by_cases d:z<0
 ·rw [ifT d,ifF m1,r,s,if_pos d];refine (?_:cond (decide (n<a)) _ _=_);by_cases e:n<a
  ·rw [ifT e,if_pos ⟨d,e⟩];cases b
   ·rfl
   ·rw [vx,ifF m2];rfl
  ·rw [ifF e,if_neg (fun h=>e h.2)]
   cases b
   ·rfl
   ·rw [vx,ifF m2];rfl
 ·rw [ifF d,if_neg d,if_neg (fun h=>d h.1)]
theorem X2 {l M N f g v0 v1 v2 v7 v8 w0 w1 w2 w7 w8:D} {v5 v6 w5 w6:Int} (d:MM M N) (m:MM f g) (e:len l≤1000) (p:∀j:Nat,j<len l→Kn M (cl l j 0)) (q:Le M f) (r:Le N g) :
  ∀k i (b:Bool) (n:Int),i+k=len l→0≤n→CA l (.int (i:Nat)) v0 v1 v2 (.int v5) (.int v6) v7 v8 M N (.bool b) (.int n)=CA l (.int (i:Nat)) w0 w1 w2 (.int w5) (.int w6) w7 w8 f g (.bool b) (.int n)
 |0,i,b,n,h,o=>by
  rw [RK l i v0,RK l i w0,ifF (by omega),ifF (by omega)]
 |k+1,i,b,n,h,o=>by
  have hi:i<len l:=by omega
  obtain ⟨z,s,_⟩:=Mi (l:=l) (i:=i) e hi;have m1:=p i hi;obtain ⟨a,t⟩:=d.int m1;have m2:¬mIx [.str] N (.row [cl l i 0])<0:=fun h=>m1 ((d.same _).2 h)
  obtain ⟨c,u⟩:=d.bool m2;have p1:=q _ m1;have p2:=r _ m2;rw [Q4 e hi o s m1 m2 t u,Q4 e hi o s p1.1 p2.1 (p1.2.trans t) (p2.2.trans u)];refine X2 d m e p q r k (i+1) _ _ (by omega) ?_
  split<;>omega
def S20 (nm v M N:D) (n:Int) (b:Bool):D:=.row [.int 2,nm,v,ad M (.row [nm,.int (n+1)]),ad N (.row [nm,.bool b])]
def T2 (d:D):Prop:=∃l,d=.row (.int 2::l)
section
variable {v0 v1 v2 v7 v8 w0 w1 w2 w7 w8 nm nm':D} {v5 v6 w5 w6:Int}
theorem Va {v M N f o:D} (B:MM M N) (u:MM f o) (hv:FT v) (C:Le M f) (E:Le N o) (P:mIx [.str] M (.row [nm])<0) (w:mIx [.str] f (.row [nm'])<0) :
  ∀k i (z Q:Int) (b:Bool),i+k=len v→(∀j,j<i→EX v j∧RX M N v j)→T2 (FG v (.int (i:Nat)) v0 v1 v2 (.int v5) (.int z) nm M N (.bool b))→
   ∃n p,FG v (.int (i:Nat)) v0 v1 v2 (.int v5) (.int z) nm M N (.bool b)=S20 nm v M N n p∧FG v (.int (i:Nat)) w0 w1 w2 (.int w5) (.int Q) nm' f o (.bool b)=S20 nm' v f o n p
 |0,i,z,Q,b,h,r,⟨t,x⟩=>by
  have hi:i=len v:=h;subst hi;obtain ⟨l,S,d⟩:=Kg (v0:=nm) hv;have T:AK nm' v=.row [.int 1,l]:=by rw [←S,Z6,Z6]
  have few:=hv.few;have Y:=Ii hv (len v) (L1 _);have V:len l=(RF v (len v)).length:=by show l.rows.length=_;rw [d];simp [nms]
  have Z:∀j:Nat,j<len l→Kn M (cl l j 0):=fun j hj=>by
   have F:j<(RF v (len v)).length:=by omega
   rw [Mk d F];obtain ⟨i,hi,U⟩:=UE (zF F);exact (r i hi).2.kn B U
  obtain ⟨p,m,G,aa,ab⟩:=X9 (v0:=v0) (v1:=v1) (v2:=v2) (v5:=v5) (v6:=-1) (v7:=nm) (v8:=v) (b:=b) B (l:=l) (by omega)
  have H:LQ w0 w1 w2 f o (.int w5) (.int (-1)) nm' v (.bool b) (.int 0) l=.row [.int 1,.bool p,.int m]:=by
   rw [←G,Y2,Y2];exact (X2 B u (by omega) Z C E (len l) 0 b 0 (by omega) (by omega)).symm
  have s:LQ v0 v1 v2 M N (.int v5) (.int (-1)) nm v (.bool b) (.int 0) (sl (.row [.int 1,l]) 1)=.row [.int 1,.bool p,.int m]:=G;have y:LQ w0 w1 w2 f o (.int w5) (.int (-1)) nm' v (.bool b) (.int 0) (sl (.row [.int 1,l]) 1)=.row [.int 1,.bool p,.int m]:=H;have I:=(B.same nm).1 P;have J:=(u.same nm').1 w;by_cases A:m<16
  ·refine ⟨m,p,?_,?_⟩
   ·rw [K2 _ _ _ _ _ _ _ _ _ _ _ rfl rfl,ifF (by omega),S,s,AC,AC,ifT P,ifT I]
    refine (?_:cond (decide (m<16)) _ _=_);rw [ifT A,G1,G1];refine (?_:D.row [.int 2,nm,v,ad M (.row [nm,.int (IntKind.wrap .i64 (m+1))]),ad N (.row [nm,.bool p])]=_);rw [A4 (by omega) (by omega)];rfl
   ·rw [K2 _ _ _ _ _ _ _ _ _ _ _ rfl rfl,ifF (by omega),T,y,AC,AC,ifT w,ifT J]
    refine (?_:cond (decide (m<16)) _ _=_);rw [ifT A,G1,G1];refine (?_:D.row [.int 2,nm',v,ad f (.row [nm',.int (IntKind.wrap .i64 (m+1))]),ad o (.row [nm',.bool p])]=_);rw [A4 (by omega) (by omega)];rfl
  ·exfalso
   rw [K2 _ _ _ _ _ _ _ _ _ _ _ rfl rfl,ifF (by omega),S,s,AC,AC,ifT P,ifT I] at x
   have K:cond (decide (m<16)) _ _=D.row (.int 2::t):=x;rw [ifF A] at K;cases K
 |k+1,i,z,Q,b,h,r,⟨t,x⟩=>by
  have few:=hv.few;have hi:i<len v:=by omega
  have W:DN v i:=fun j q C E=>(r q E).1.new j C
  have X:¬(sl (D.row [.int 2]) 0).toInt=1:=by show ¬(2:Int)=1;decide
  rcases YI (v0:=v0) (v1:=v1) (v2:=v2) (v3:=M) (v4:=N) (v5:=v5) (v7:=nm) hv (i:=i) hi W with ⟨a,c,e,g⟩|⟨g,he⟩
  ·exfalso
   rw [K2 _ _ _ _ _ _ _ _ _ _ _ rfl rfl,ifT (by omega),ifF (by omega),AL (by omega),g,AC] at x
   cases x
  ·have g':=jZ (w0:=w0) (w1:=w1) (w2:=w2) (w5:=w5) (w7:=nm') hv hi W C E g
   have L:FG v (.int (i:Nat)) v0 v1 v2 (.int v5) (.int z) nm M N (.bool b)=FG v (.int ((i+1:Nat):Int)) v0 v1 v2 (.int v5) (.int (i:Nat)) nm M N (.bool (b && !(cl v i 4).toBool)):=by
    rw [K2 _ _ _ _ _ _ _ _ _ _ _ rfl rfl,ifT (by omega),ifF (by omega),AL (by omega),g,ifF X,AC]
    cases b<;>rfl
   have R:FG v (.int (i:Nat)) w0 w1 w2 (.int w5) (.int Q) nm' f o (.bool b)=FG v (.int ((i+1:Nat):Int)) w0 w1 w2 (.int w5) (.int (i:Nat)) nm' f o (.bool (b && !(cl v i 4).toBool)):=by
    rw [K2 _ _ _ _ _ _ _ _ _ _ _ rfl rfl,ifT (by omega),ifF (by omega),AL (by omega),g',ifF X,AC]
    cases b<;>rfl
   rw [L,R];rw [L] at x
   exact Va B u hv C E P w k (i+1) _ _ _ (by omega) (fun j hj=>by
    rcases R2 j i with O|O
    ·exact r j O
    ·have:j=i:=by omega
     subst this;exact he) ⟨t,x⟩
theorem XH {v M N d h x y x' y':D} {z z':Int} (o:MM M N) (m:MM d h) (hv:FT v) (p:Le M d) (q:Le N h) (e:mIx [.str] d (.row [nm'])<0) (f:Bn nm'=true)
  (b:T2 (MV v0 v1 v2 M N (.int v5) (.int z) x y nm v)) :
  ∃n i,MV v0 v1 v2 M N (.int v5) (.int z) x y nm v=S20 nm v M N n i∧MV w0 w1 w2 d h (.int w5) (.int z') x' y' nm' v=S20 nm' v d h n i:=by
 obtain ⟨t,b⟩:=b;rw [UW,JH,AC] at b;cases c:Bn nm with
 |false=>rw [c] at b;cases b
 |true=>
  rw [c] at b;have a:cond (decide (mIx [.str] M (.row [nm])<0)) _ _=D.row (.int 2::t):=b;by_cases k:mIx [.str] M (.row [nm])<0
  ·rw [ifT k] at a;by_cases l:(len v:Int)<1
   ·rw [ifT l] at a;cases a
   ·rw [ifF l] at a;by_cases l2:(40:Int)<len v
    ·rw [ifT l2] at a;cases a
    ·rw [ifF l2] at a;obtain ⟨n,i,g,r⟩:=Va (w0:=w0) (w1:=w1) (w2:=w2) (w5:=w5) (nm':=nm') o m hv p q k e (len v) 0 (-1) (-1) true (by omega) (fun j hj=>absurd hj (gk _)) ⟨t,a⟩
     refine ⟨n,i,?_,?_⟩
     ·rw [UW,JH,AC,c];refine (?_:cond (decide (mIx [.str] M (.row [nm])<0)) _ _=_);rw [ifT k,ifF l,ifF l2];exact g
     ·rw [UW,JH,AC,f];refine (?_:cond (decide (mIx [.str] d (.row [nm'])<0)) _ _=_);rw [ifT e,ifF l,ifF l2];exact r
  ·rw [ifF k] at a;cases a
end
end
end Mx
set_option maxRecDepth 4000
namespace Mx
open Go Go.AE
section
variable [Ap]
structure XT (ms ms' nm':D) (j:Nat):Prop where
 ln:len ms'=len ms+1
 at':∀(i c:Nat),i<len ms→cl ms' (i:Nat) c=cl ms (i:Nat) c
 nm:cl ms' (len ms:Nat) 0=nm'
 fs:cl ms' (len ms:Nat) 1=cl ms (j:Nat) 1
 hj:j<len ms
def SU (v2 ms st x y M N:D):D:=.row [.int 2,.int 0,.int 0,.int 0,.bool false,v2,ms,st,.int (-1),.int (-1),x,y,M,N]
theorem aS {M k:D} (h:¬Kn M k):mIx [.str] M (.row [k])<0:=Int.not_le.1 fun a=>h (by unfold Kn;omega)
section
variable {ms ms' nm' v2 st:D} {j:Nat}
theorem ZQ (s:XT ms ms' nm' j) (H:len ms≤1000) (hv:∀m:Nat,m<len ms→FT (cl ms m 1)):∀k i (z:Int) (x y M N x' y' o p:D),i+k=len ms→MM M N→
  Jf ms (.int (i:Nat)) v2 st (.int z) x y M N=SU v2 ms st x' y' o p→
  MM o p∧Le M o∧Le N p∧¬mIx [.str] o (.row [st])<0∧(∃z':Int,Jf ms' (.int (i:Nat)) v2 st (.int z) x y M N=Jf ms' (.int (len ms:Nat)) v2 st (.int z') x' y' o p)∧
  (i≤j→∃u v a b,MM u v∧Le u o∧Le v p∧T2 (MV v2 ms st u v (.int (j:Nat)) (.int (-1)) a b (cl ms (j:Nat) 0) (cl ms (j:Nat) 1)))
 |0,i,z,x,y,M,N,x',y',o,p,h,q,f=>by
  have hi:i=len ms:=h;subst hi;rw [KZ _ _ _ _ _ _ _ _ _ rfl,ifF (by omega)] at f
  by_cases w:mIx [.str] M (.row [st])<0
  ·rw [ifT w] at f;have:true=false:=congrArg (fun d=>(sl d 4).toBool) f
   cases this
  ·rw [ifF w] at f;unfold SU at f;cases f;exact ⟨q,.refl,.refl,w,⟨z,rfl⟩,fun hh=>absurd s.hj (by omega)⟩
 |k+1,i,z,x,y,M,N,x',y',o,p,h,q,f=>by
  have hi:i<len ms:=by omega
  have E:∀l,¬(sl (D.row (.int 2::l)) 0).toInt=1:=fun l=>by show ¬(2:Int)=1;decide
  rcases Za (v0:=v2) (v1:=ms) (v2:=st) (v5:=(i:Nat)) (v6:=-1) (v7:=x) (v8:=y) (nm:=cl ms i 0) q (hv i hi) with ⟨a,b,c,e,x1,y1,M1,N1,g⟩|⟨b,n,g,h0,I,A,J,t,F⟩
  ·rw [KZ _ _ _ _ _ _ _ _ _ rfl,ifT (by omega),ifF (by omega),AL (by omega),g,AC] at f
   have:true=false:=congrArg (fun d=>(sl d 4).toBool) f
   cases this
  ·obtain ⟨K,O,L,R⟩:=XH (w0:=v2) (w1:=ms') (w2:=st) (w5:=(i:Nat)) (x':=x) (y':=y) (z':=-1) (nm':=cl ms i 0) q q (hv i hi) .refl .refl (aS t) A ⟨_,g⟩;rw [KZ _ _ _ _ _ _ _ _ _ rfl,ifT (by omega),ifF (by omega),AL (by omega),L] at f
   unfold S20 at f L R;rw [ifF (E _),AC] at f;have B:Jf ms (.int ((i+1:Nat):Int)) v2 st (.int (i:Nat)) (cl ms i 0) (cl ms i 1) (ad M (.row [cl ms i 0,.int (K+1)])) (ad N (.row [cl ms i 0,.bool O]))=SU v2 ms st x' y' o p:=f;obtain ⟨P,Q,S,T,⟨z',U⟩,V⟩:=ZQ s H hv k (i+1) _ _ _ _ _ _ _ _ _ (by omega) q.put B
   have W:∀r∈N.rows,∃x l,r=.row (x::l):=fun r F=>by obtain ⟨x,n,e⟩:=q.bools r F;exact ⟨x,_,e⟩
   have G:Le M o:=(Le.ad q.shape).trans Q;have l2:Le N p:=(Le.ad W).trans S;refine ⟨P,G,l2,T,⟨z',?_⟩,fun X=>?_⟩
   ·have Y:=s.ln;rw [←U,KZ _ _ _ _ _ _ _ _ _ rfl,ifT (by omega),ifF (by omega),AL (by omega),s.at' i 0 hi,s.at' i 1 hi,R,ifF (E _),AC]
    rfl
   ·rcases R2 i j with C|Z
    ·exact V C
    ·have:i=j:=by omega
     subst this;exact ⟨M,N,x,y,q,G,l2,⟨_,g⟩⟩
theorem ek {v0 x y c f:D} (d:XT ms ms' nm' j) (A:len ms≤50) (hv:∀m:Nat,m<len ms→FT (cl ms m 1)) (h:Do v0 ms st=SU v0 ms st x y c f) (g:Bn nm'=true) (e:mIx [.str] c (.row [nm'])<0) :
  ∃x' y' n b,Do v0 ms' st=SU v0 ms' st x' y' (ad c (.row [nm',.int n])) (ad f (.row [nm',.bool b])):=by
 have r:=d.ln;have hj:=d.hj;have s:∀l,¬(sl (D.row (.int 2::l)) 0).toInt=1:=fun l=>by show ¬(2:Int)=1;decide
 rw [ZZ,JH,AC] at h;cases i:Bn v0 with
 |false=>rw [i] at h;cases h
 |true=>
  rw [i] at h;have o:cond (decide ((len ms:Int)<1)) _ _=SU v0 ms st x y c f:=h;rw [ifF (by omega),ifF (by omega)] at o
  obtain ⟨p,B,C,t,⟨z',u⟩,v⟩:=ZQ d (by omega) hv (len ms) 0 (-1) _ _ _ _ _ _ _ _ (by omega) MM.empty o
  obtain ⟨E,F,a,b,k,w,l2,z⟩:=v (zz _);obtain ⟨n,q,_,R⟩:=XH (w0:=v0) (w1:=ms') (w2:=st) (w5:=(len ms:Nat)) (x':=x) (y':=y) (z':=-1) (nm':=nm') k p (hv j hj) w l2 e g z;refine ⟨nm',cl ms (j:Nat) 1,n+1,q,?_⟩;rw [ZZ,JH,AC,i];refine (?_:cond (decide ((len ms':Int)<1)) _ _=_);rw [ifF (by omega),ifF (by omega)]
  refine Eq.trans u ?_;unfold S20 at R;rw [KZ _ _ _ _ _ _ _ _ _ rfl,ifT (by omega),ifF (by omega),AL (by omega),d.nm,d.fs,R,ifF (s _),AC]
  refine (?_:Jf ms' (.int ((len ms+1:Nat):Int)) v0 st (.int (len ms:Nat)) nm' (cl ms (j:Nat) 1) (ad c (.row [nm',.int (n+1)])) (ad f (.row [nm',.bool q]))=_);rw [KZ _ _ _ _ _ _ _ _ _ rfl,ifF (by omega),ifF (Le.ad p.shape st t).1]
  rfl
theorem fI {v0 x y o E:D} {t:Nat→Int} (k:XT ms ms' nm' j) (H:len ms≤8) (hv:∀m:Nat,m<len ms→FT (cl ms m 1)) (h:Do v0 ms st=SU v0 ms st x y o E) (u:GP ms (len ms) o t) (p:Bn nm'=true) (l:mIx [.str] o (.row [nm'])<0) :
  ∃v w z A f,Do v0 ms' st=SU v0 ms' st v w z A∧Good ms' st z A f∧∀i,i<len ms→f i=t i:=by
 have F:=k.ln;obtain ⟨v,w,n,b,e⟩:=ek k (by omega) hv h p l
 have s:∀m:Nat,m<len ms'→FT (cl ms' m 1):=fun m I=>by
  rcases R2 m (len ms) with q|q
  ·rw [k.at' m 1 q];exact hv m q
  ·have:m=len ms:=by omega
   subst this;rw [k.fs];exact hv j k.hj
 rcases YL (v0:=v0) (st:=st) (ms:=ms') (by omega) s with ⟨c,r,g⟩|⟨a,b,c,r,g⟩|⟨x2,y2,M,N,f,g,B⟩
 ·rw [e] at g;cases g
 ·rw [e] at g;have:false=true:=congrArg (fun d=>(sl d 4).toBool) g
  cases this
 ·rw [e] at g;unfold SU at g;cases g;refine ⟨_,_,_,_,f,e,B,fun i hi=>?_⟩
  have G:=(u.cell hi).2;have C:=(B.1.cell (i:=i) (by omega)).2
  rw [EO (by omega),if_neg (by rw [u.ln];omega),G] at C
  exact (D.int.inj C).symm
end
end
end Mx
set_option maxRecDepth 4000
namespace Mx
open Go Go.AE
section
variable [Ap]
inductive CH (ms:D):Nat→List D→Prop
 |stop {i:Nat}:RG ms i=rg ms i→CH ms i []
 |next {i:Nat} {r:D} {l:List D}:RG ms i≠rg ms i→(rfs ms i).find? (fun r=>decide (rv ms r=RG ms i-rg ms i))=some r→CH ms (ixI ms r) l→CH ms i (r::l)
def adL (v:D) (l:List D):D:=l.foldl (fun a r=>ad a (.row [r])) v
theorem RA:∀(l L:List D) (v:D),v.rows=nms L→(adL v l).rows=nms (L++l)
 |[],L,v,h=>by rw [zJ];exact h
 |r::l,L,v,h=>by
  show (adL (ad v (.row [r])) l).rows=_;rw [RA l (L++[r]) _ (PG h),List.append_assoc];rfl
section
variable {ms M a st:D} {dp:Nat→Int}
theorem Vk (b:GP ms (len ms) M dp) {i:Nat} (hi:i<len ms):Nu (rv ms) (rfs ms i) (RG ms i-rg ms i):=by
 have h:=Qi (f:=rv ms) (rfs ms i);rw [I8 b hi];have e:rg ms i+mxL (rv ms) (rfs ms i)-rg ms i=mxL (rv ms) (rfs ms i):=by omega
 rw [e];exact h
theorem CH.ex (t:GP ms (len ms) M dp):∀n i,i≤n→i<len ms→∃l,CH ms i l:=by
 intro n
 induction n with
 |zero=>
  intro i J hi;have i0:i=0:=by omega
  subst i0;refine ⟨[],.stop ?_⟩;rw [I8 t hi,GD t hi];show rg ms 0+0=_;omega
 |succ n ih=>
  intro i J hi;by_cases h:RG ms i=rg ms i
  ·exact ⟨[],.stop h⟩
  ·have hm:=Vk t hi;rcases hm.at' with e|⟨r,hr,e⟩
   ·exact absurd e (by omega)
   ·cases I:(rfs ms i).find? (fun r=>decide (rv ms r=RG ms i-rg ms i)) with
    |none=>exact absurd (List.find?_eq_none.1 I r hr) (by simp [e])
    |some x=>
     have hx:=List.mem_of_find?_eq_some I;obtain ⟨hj,_⟩:=t.ref' hi hx;obtain ⟨l,hl⟩:=ih (ixI ms x) (by omega) (by omega)
     exact ⟨x::l,.next h I hl⟩
theorem jY (t:GP ms (len ms) M dp) {S l x:D} {c:Int} {i:Nat} (hi:i<len ms) (b:l.rows=nms (rfs ms i)) (w:∀r∈rfs ms i,lk S r=some (.int (rv ms r))):EC S x (.int c) l=match (rfs ms i).find? (fun r=>decide (rv ms r=c)) with|some r=>.row [.int 1,r]|none=>.row [.int 2]:=by
 have y:=Ii (t.fo i hi).ft _ (L1 _);have few:=(t.fo i hi).ft.few;have u:len l=(rfs ms i).length:=by show l.rows.length=_;rw [b];simp [nms]
 have A:(rfs ms i).length≤160:=by unfold rfs;omega
 have e:∀j (hj:j<(rfs ms i).length),cl l j 0=(rfs ms i)[j]:=fun j hj=>Mk b hj
 have B:∀k q,q+k=(rfs ms i).length→(∀j (hj:j<(rfs ms i).length),j<q→rv ms (rfs ms i)[j]≠c)→Ms l (.int (q:Nat)) S x (.int c)=match ((rfs ms i).drop q).find? (fun r=>decide (rv ms r=c)) with|some r=>.row [.int 1,r]|none=>.row [.int 2]:=by
  intro k
  induction k with
  |zero=>
   intro q h f;rw [eE,ifF (by omega),List.drop_eq_nil_of_le (by omega)];rfl
  |succ k ih=>
   intro q h f;have p:q<(rfs ms i).length:=by omega
   have m:(rfs ms i)[q]∈rfs ms i:=zF p;obtain ⟨z,C,s,_⟩:=Mi (l:=l) (i:=q) (by omega) (by omega)
   have nx:rv ms (rfs ms i)[q]≠c→Ms l (.int ((q+1:Nat):Int)) S x (.int c)=match ((rfs ms i).drop (q+1)).find? (fun r=>decide (rv ms r=c)) with|some r=>.row [.int 1,r]|none=>.row [.int 2]:=fun d=>ih (q+1) (by omega) fun j hj E=>by
    rcases R2 j q with n|n
    ·exact f j hj n
    ·have:j=q:=by omega
     subst this;exact d
   rw [eE,ifT (by omega),ifF (by omega),ifF (by omega),C,AL (by omega),AC,List.drop_eq_getElem_cons p,List.find?_cons]
   refine (?_:cond (decide (z<0)) _ _=_);by_cases g:z<0
   ·obtain ⟨F,G⟩:=Ef (w _ m);rw [ifT g,e q p,ifF F,G];refine (?_:cond (decide (rv ms (rfs ms i)[q]=c)) _ _=_);by_cases o:rv ms (rfs ms i)[q]=c
    ·rw [ifT o,oj o]
    ·rw [ifF o,ll o];exact nx o
   ·obtain ⟨j,hj,v⟩:=s g;rw [e q p,e j (by omega)] at v
    have d:rv ms (rfs ms i)[q]≠c:=by rw [Se v];exact f j (by omega) hj
    rw [ifF g,ll d];exact nx d
 rw [uE];exact B (rfs ms i).length 0 (by omega) fun j hj h=>absurd h (gk _)
def Cs (ms B acc:D) (G:D→D) (b:Nat):Prop:=∀(r:D) (i:Nat) (l:List D),ixN ms (len ms) r=(i:Nat)→i<b→Kn B r→CH ms i l→G r=.row [.int 1,adL acc (r::l),.bool false,.int 0]
section
variable {B R S v3 v4 v6 v7 v17:D} {v5 v8:Bool}
theorem Eb (e:GP ms (len ms) M dp) (J:len ms≤9) (K:0<len v7) (C:BT B) (hR:RS ms B (len ms) R) (u:∀j,j<len ms→Kn B (nmI ms j)→∀r∈rfs ms j,Kn B r) (t:SS ms B (len ms) S) {F:D→D} {G:D→D→D} {L acc:D} {b:Nat} (v:∀r,Cs ms B (ad acc (.row [r])) (G r) b)
  (N:∀r,F r=CT ms v3 v4 v5 v6 v7 v8 v17 R S L acc (G r) r):Cs ms B acc F (b+1):=by
 intro r i l m O P w;obtain ⟨hi,d⟩:=P9 m;have f:Kn B (nmI ms i):=P.congr C.sh (by rw [A2];exact d)
 have y:BE v3 v4 (.bool v5) v6 v7 (.bool v8) v17 R r=.row [.int 1,.int (rg ms i),.int 0]:=by
  rw [ZI K,←GI hR.sh d,hR.yes i hi f]
 have z:lk S r=some (.int (RG ms i)):=by rw [←GI t.sh d];exact t.yes i hi f
 obtain ⟨Q,T⟩:=Ef z;have E:=Vk e hi;have m0:=E.nn;obtain ⟨_,m1,_⟩:=Xk e hi J E;obtain ⟨q,n,g⟩:=Kg (v0:=cl ms i 0) (e.fo i hi).ft;have k:AK (cl ms i 0) (cl ms i 1)=.row [.int 1,q]:=n;have o:∀x∈rfs ms i,Kn B x:=u i hi f
 have h62:=jY e (x:=AA 0 0) (c:=RG ms i-rg ms i) hi g (S:=S) fun x p=>by
  obtain ⟨hj,X,H,_⟩:=e.ref' hi p;have A:Kn B (nmI ms (ixI ms x)):=(o x p).congr C.sh (by rw [A2];exact H)
  rw [←GI t.sh H];exact t.yes _ (by omega) A
 have t1:(sl (D.row [.int 1,.int (i:Int)]) 1).toInt=(i:Int):=rfl;have t2:(sl (D.row [.int 1,.int (rg ms i),.int 0]) 1).toInt=rg ms i:=rfl;have t3:(D.int (RG ms i)).toInt=RG ms i:=rfl;have t4:sl (D.row [.int 1,q]) 1=q:=rfl;rw [N];unfold CT;rw [Ya (e.nb i hi) d,lp,Mh (by omega),m,AC,t1,ifF (by omega),y,AC,ifF Q,T,t2,t3,A4 (by omega) (by omega)]
 cases w with
 |stop h=>
  rw [ifT (by omega)];rfl
 |@next _ x U h I V=>
  rw [I] at h62;have s:EC S (AA 0 0) (.int (RG ms i-rg ms i)) q=.row [.int 1,x]:=h62;have p:=List.mem_of_find?_eq_some I;obtain ⟨hj,W,_⟩:=e.ref' hi p;rw [ifF (by omega),ifT (by omega),k,AC,t4,s,AC]
  exact v r x (ixI ms x) U W (by omega) (o x p) V
section
variable (v0 v2 v3 v4 v6 v17:D) (v5 v8:Bool)
theorem yh:∀j b c d e f g i:D,Cs ms B (ad (ad (ad (ad (ad (ad (ad (ad (ad Ad (.row [v2])) (.row [j])) (.row [b])) (.row [c])) (.row [d])) (.row [e])) (.row [f])) (.row [g])) (.row [i])) (fun x=>TL v0 ms v2 v3 v4 (.bool v5) v6 v7 (.bool v8) j b c d e f g i x v17 R S) 0:=fun _ _ _ _ _ _ _ _ _ _ _ _ h=>absurd h (gk _)
theorem ya (k:GP ms (len ms) M dp) (l:len ms≤9) (m:0<len v7) (n:BT B) (hR:RS ms B (len ms) R) (i:∀j,j<len ms→Kn B (nmI ms j)→∀r∈rfs ms j,Kn B r) (o:SS ms B (len ms) S):∀h b c d e f g:D,Cs ms B (ad (ad (ad (ad (ad (ad (ad (ad Ad (.row [v2])) (.row [h])) (.row [b])) (.row [c])) (.row [d])) (.row [e])) (.row [f])) (.row [g])) (fun x=>MB v0 ms v2 v3 v4 (.bool v5) v6 v7 (.bool v8) h b c d e f g x v17 R S) 1:=fun h b c d e f g=>
 Eb (v3:=v3) (v4:=v4) (v5:=v5) (v6:=v6) (v8:=v8) (v17:=v17) k l m n hR i o (F:=fun x=>MB v0 ms v2 v3 v4 (.bool v5) v6 v7 (.bool v8) h b c d e f g x v17 R S) (G:=fun r x=>TL v0 ms v2 v3 v4 (.bool v5) v6 v7 (.bool v8) h b c d e f g r x v17 R S) (acc:=(ad (ad (ad (ad (ad (ad (ad (ad Ad (.row [v2])) (.row [h])) (.row [b])) (.row [c])) (.row [d])) (.row [e])) (.row [f])) (.row [g]))) (fun r=>yh v0 v2 v3 v4 v6 v17 v5 v8 h b c d e f g r) (fun r=>fP v0 ms v2 v3 v4 v5 v6 v7 v8 h b c d e f g r v17 R S)
theorem ch9 (i:GP ms (len ms) M dp) (k:len ms≤9) (l:0<len v7) (m:BT B) (hR:RS ms B (len ms) R) (h:∀j,j<len ms→Kn B (nmI ms j)→∀r∈rfs ms j,Kn B r) (n:SS ms B (len ms) S):∀g b c d e f:D,Cs ms B (ad (ad (ad (ad (ad (ad (ad Ad (.row [v2])) (.row [g])) (.row [b])) (.row [c])) (.row [d])) (.row [e])) (.row [f])) (fun x=>Rd v0 ms v2 v3 v4 (.bool v5) v6 v7 (.bool v8) g b c d e f x v17 R S) 2:=fun g b c d e f=>
 Eb (v3:=v3) (v4:=v4) (v5:=v5) (v6:=v6) (v8:=v8) (v17:=v17) i k l m hR h n (F:=fun x=>Rd v0 ms v2 v3 v4 (.bool v5) v6 v7 (.bool v8) g b c d e f x v17 R S) (G:=fun r x=>MB v0 ms v2 v3 v4 (.bool v5) v6 v7 (.bool v8) g b c d e f r x v17 R S) (acc:=(ad (ad (ad (ad (ad (ad (ad Ad (.row [v2])) (.row [g])) (.row [b])) (.row [c])) (.row [d])) (.row [e])) (.row [f]))) (fun r=>ya v0 v2 v3 v4 v6 v17 v5 v8 i k l m hR h n g b c d e f r) (fun r=>wy v0 ms v2 v3 v4 v5 v6 v7 v8 g b c d e f r v17 R S)
theorem ch8 (h:GP ms (len ms) M dp) (i:len ms≤9) (k:0<len v7) (l:BT B) (hR:RS ms B (len ms) R) (g:∀j,j<len ms→Kn B (nmI ms j)→∀r∈rfs ms j,Kn B r) (m:SS ms B (len ms) S):∀f b c d e:D,Cs ms B (ad (ad (ad (ad (ad (ad Ad (.row [v2])) (.row [f])) (.row [b])) (.row [c])) (.row [d])) (.row [e])) (fun x=>Ss v0 ms v2 v3 v4 (.bool v5) v6 v7 (.bool v8) f b c d e x v17 R S) 3:=fun f b c d e=>
 Eb (v3:=v3) (v4:=v4) (v5:=v5) (v6:=v6) (v8:=v8) (v17:=v17) h i k l hR g m (F:=fun x=>Ss v0 ms v2 v3 v4 (.bool v5) v6 v7 (.bool v8) f b c d e x v17 R S) (G:=fun r x=>Rd v0 ms v2 v3 v4 (.bool v5) v6 v7 (.bool v8) f b c d e r x v17 R S) (acc:=(ad (ad (ad (ad (ad (ad Ad (.row [v2])) (.row [f])) (.row [b])) (.row [c])) (.row [d])) (.row [e]))) (fun r=>ch9 v0 v2 v3 v4 v6 v17 v5 v8 h i k l hR g m f b c d e r) (fun r=>pr v0 ms v2 v3 v4 v5 v6 v7 v8 f b c d e r v17 R S)
theorem ch7 (g:GP ms (len ms) M dp) (h:len ms≤9) (i:0<len v7) (k:BT B) (hR:RS ms B (len ms) R) (f:∀j,j<len ms→Kn B (nmI ms j)→∀r∈rfs ms j,Kn B r) (l:SS ms B (len ms) S):∀e b c d:D,Cs ms B (ad (ad (ad (ad (ad Ad (.row [v2])) (.row [e])) (.row [b])) (.row [c])) (.row [d])) (fun x=>Sw v0 ms v2 v3 v4 (.bool v5) v6 v7 (.bool v8) e b c d x v17 R S) 4:=fun e b c d=>
 Eb (v3:=v3) (v4:=v4) (v5:=v5) (v6:=v6) (v8:=v8) (v17:=v17) g h i k hR f l (F:=fun x=>Sw v0 ms v2 v3 v4 (.bool v5) v6 v7 (.bool v8) e b c d x v17 R S) (G:=fun r x=>Ss v0 ms v2 v3 v4 (.bool v5) v6 v7 (.bool v8) e b c d r x v17 R S) (acc:=(ad (ad (ad (ad (ad Ad (.row [v2])) (.row [e])) (.row [b])) (.row [c])) (.row [d]))) (fun r=>ch8 v0 v2 v3 v4 v6 v17 v5 v8 g h i k hR f l e b c d r) (fun r=>qW v0 ms v2 v3 v4 v5 v6 v7 v8 e b c d r v17 R S)
theorem ch6 (f:GP ms (len ms) M dp) (g:len ms≤9) (h:0<len v7) (i:BT B) (hR:RS ms B (len ms) R) (e:∀j,j<len ms→Kn B (nmI ms j)→∀r∈rfs ms j,Kn B r) (k:SS ms B (len ms) S):∀d b c:D,Cs ms B (ad (ad (ad (ad Ad (.row [v2])) (.row [d])) (.row [b])) (.row [c])) (fun x=>Q0 v0 ms v2 v3 v4 (.bool v5) v6 v7 (.bool v8) d b c x v17 R S) 5:=fun d b c=>
 Eb (v3:=v3) (v4:=v4) (v5:=v5) (v6:=v6) (v8:=v8) (v17:=v17) f g h i hR e k (F:=fun x=>Q0 v0 ms v2 v3 v4 (.bool v5) v6 v7 (.bool v8) d b c x v17 R S) (G:=fun r x=>Sw v0 ms v2 v3 v4 (.bool v5) v6 v7 (.bool v8) d b c r x v17 R S) (acc:=(ad (ad (ad (ad Ad (.row [v2])) (.row [d])) (.row [b])) (.row [c]))) (fun r=>ch7 v0 v2 v3 v4 v6 v17 v5 v8 f g h i hR e k d b c r) (fun r=>nJ v0 ms v2 v3 v4 v5 v6 v7 v8 d b c r v17 R S)
theorem ch5 (e:GP ms (len ms) M dp) (f:len ms≤9) (g:0<len v7) (h:BT B) (hR:RS ms B (len ms) R) (d:∀j,j<len ms→Kn B (nmI ms j)→∀r∈rfs ms j,Kn B r) (i:SS ms B (len ms) S):∀c b:D,Cs ms B (ad (ad (ad Ad (.row [v2])) (.row [c])) (.row [b])) (fun x=>RJ v0 ms v2 v3 v4 (.bool v5) v6 v7 (.bool v8) c b x v17 R S) 6:=fun c b=>
 Eb (v3:=v3) (v4:=v4) (v5:=v5) (v6:=v6) (v8:=v8) (v17:=v17) e f g h hR d i (F:=fun x=>RJ v0 ms v2 v3 v4 (.bool v5) v6 v7 (.bool v8) c b x v17 R S) (G:=fun r x=>Q0 v0 ms v2 v3 v4 (.bool v5) v6 v7 (.bool v8) c b r x v17 R S) (acc:=(ad (ad (ad Ad (.row [v2])) (.row [c])) (.row [b]))) (fun r=>ch6 v0 v2 v3 v4 v6 v17 v5 v8 e f g h hR d i c b r) (fun r=>ru v0 ms v2 v3 v4 v5 v6 v7 v8 c b r v17 R S)
theorem ch4 (d:GP ms (len ms) M dp) (e:len ms≤9) (f:0<len v7) (g:BT B) (hR:RS ms B (len ms) R) (c:∀j,j<len ms→Kn B (nmI ms j)→∀r∈rfs ms j,Kn B r) (h:SS ms B (len ms) S):∀b:D,Cs ms B (ad (ad Ad (.row [v2])) (.row [b])) (fun x=>SA v0 ms v2 v3 v4 (.bool v5) v6 v7 (.bool v8) b x v17 R S) 7:=fun b=>
 Eb (v3:=v3) (v4:=v4) (v5:=v5) (v6:=v6) (v8:=v8) (v17:=v17) d e f g hR c h (F:=fun x=>SA v0 ms v2 v3 v4 (.bool v5) v6 v7 (.bool v8) b x v17 R S) (G:=fun r x=>RJ v0 ms v2 v3 v4 (.bool v5) v6 v7 (.bool v8) b r x v17 R S) (acc:=(ad (ad Ad (.row [v2])) (.row [b]))) (fun r=>ch5 v0 v2 v3 v4 v6 v17 v5 v8 d e f g hR c h b r) (fun r=>oo v0 ms v2 v3 v4 v5 v6 v7 v8 b r v17 R S)
theorem ch3 (c:GP ms (len ms) M dp) (d:len ms≤9) (e:0<len v7) (f:BT B) (hR:RS ms B (len ms) R) (b:∀j,j<len ms→Kn B (nmI ms j)→∀r∈rfs ms j,Kn B r) (g:SS ms B (len ms) S):Cs ms B (ad Ad (.row [v2])) (fun x=>Q6 v0 ms v2 v3 v4 (.bool v5) v6 v7 (.bool v8) x v17 R S) 8:=
 Eb (v3:=v3) (v4:=v4) (v5:=v5) (v6:=v6) (v8:=v8) (v17:=v17) c d e f hR b g (F:=fun x=>Q6 v0 ms v2 v3 v4 (.bool v5) v6 v7 (.bool v8) x v17 R S) (G:=fun r x=>SA v0 ms v2 v3 v4 (.bool v5) v6 v7 (.bool v8) r x v17 R S) (acc:=(ad Ad (.row [v2]))) (fun r=>ch4 v0 v2 v3 v4 v6 v17 v5 v8 c d e f hR b g  r) (fun r=>uu v0 ms v2 v3 v4 v5 v6 v7 v8  r v17 R S)
theorem ch2 (c:GP ms (len ms) M dp) (d:len ms≤9) (e:0<len v7) (f:BT B) (hR:RS ms B (len ms) R) (b:∀j,j<len ms→Kn B (nmI ms j)→∀r∈rfs ms j,Kn B r) (g:SS ms B (len ms) S):Cs ms B Ad (fun x=>Oc v0 ms x v3 v4 (.bool v5) v6 v7 (.bool v8) v17 R S) 9:=
 Eb (v3:=v3) (v4:=v4) (v5:=v5) (v6:=v6) (v8:=v8) (v17:=v17) c d e f hR b g (F:=fun x=>Oc v0 ms x v3 v4 (.bool v5) v6 v7 (.bool v8) v17 R S) (G:=fun r x=>Q6 v0 ms r v3 v4 (.bool v5) v6 v7 (.bool v8) x v17 R S) (acc:=Ad) (fun r=>ch3 v0 r v3 v4 v6 v17 v5 v8 c d e f hR b g) (fun r=>vJ v0 ms r v3 v4 v5 v6 v7 v8 v17 R S)
end
end
theorem Yy {v:D} {b b':Bool} (h:len v≤1000000):NU v (.bool b) v (.bool b')=.row [.int 1,.bool true]:=by
 have c:∀n i,i+n=len v→VA v (.bool b) v (.bool b') (.int (i:Nat))=.row [.int 1,.bool true]:=by
  intro n
  induction n with
  |zero=>
   intro i h;have:i=len v:=h;subst this;rw [fD,ifF (by omega)]
  |succ n ih=>
   intro i h;rw [fD,ifT (by omega),ifF (by omega),ifT (by omega),BW,vx,AL (by omega)]
   exact ih (i+1) (by omega)
 rw [pd,ifT rfl];exact c (len v) 0 (by omega)
theorem CH.len (t:GP ms (len ms) M dp) {i:Nat} {l:List D} (h:CH ms i l):i<len ms→(l.length:Int)+1≤dp i:=by
 induction h with
 |@stop i h=>intro hi;have:=(t.low i hi).1;show (0:Int)+1≤_;omega
 |@next i r l h I J ih=>
  intro hi;obtain ⟨hj,_,_,hd⟩:=t.ref' hi (List.mem_of_find?_eq_some I);have:=ih (by omega)
  rw [la];omega
end
end
end Mx
set_option maxRecDepth 4000
namespace Mx
open Go Go.AE
section
variable [Ap]
theorem xX {v:D} (h:∀i,i<len v→EX v i) {n:Nat} (b:n≤len v):DN v n:=fun j k a c=>(h k (by omega)).new j a
theorem Qs {v nm:D} {i:Nat} (h:0≤ixM (AO v i) nm):∀n,i≤n→ixM (AO v n) nm=ixM (AO v i) nm∧(∀c,cl (AO v n) (ixM (AO v i) nm) c=cl (AO v i) (ixM (AO v i) nm) c)∧len (AO v i)≤len (AO v n)
 |0,d=>by
  have:i=0:=by omega
  subst this;exact ⟨rfl,fun _=>rfl,L1 _⟩
 |n+1,d=>by
  by_cases e:i=n+1
  ·subst e;exact ⟨rfl,fun _=>rfl,L1 _⟩
  ·obtain ⟨a,b,f⟩:=Qs h n (by omega)
   have j:ixM (AO v i) nm<len (AO v i):=by
    rcases En (v:=v) (nm:=nm) i with ⟨g,_⟩|⟨_,_,_,_,_,g,_⟩
    ·exact absurd h (by unfold ixM;omega)
    ·exact g
   rw [AO];cases Gy (kd v n) with
   |false=>exact ⟨a,b,f⟩
   |true=>
    simp only [vx];refine ⟨?_,fun c=>?_,by rw [Dv];omega⟩
    ·show mIx [.str] _ _=_;rw [Kb (Gc (v:=v) n)];have:mIx [.str] (AO v n) (.row [nm])=ixM (AO v i) nm:=a;rw [this,if_pos h]
    ·rw [EO h,if_neg (by omega)];exact b c
theorem SZ.up {v t:D} {base:Int} {i n:Nat} (h:SZ v t base i) (l:i≤n):SZ v t base n:=by
 refine ⟨h.lo,h.hi,h.few,h.terms,fun j hj=>?_,fun j hj=>?_,h.run⟩
 ·have:=h.known j hj;rw [(Qs this n l).1];exact this
 ·have I:=h.known j hj;obtain ⟨J,r,_⟩:=Qs I n l;obtain ⟨r1,r2,r3⟩:=h.right j hj;unfold RO loM hiM at *;rw [J,r 1,r 2];exact ⟨r1,r2,r3⟩
theorem YX {v a:D} {i:Nat} {o m:Int} (p:FO v) (hi:i<len v) :
  IsI (LK a v (.int m) (cl v i 0) (cl v i 1) (cl v i 2) (cl v i 3) (cl v i 4) (cl v i 5) (cl v i 6) (cl v i 7) (cl v i 8) (cl v i 9) (cl v i 10) (cl v i 11) (cl v i 12) (cl v i 13) (cl v i 14) (.int o)):=by
 have hv:=p.ft;have few:=hv.few;have q:=p.ex i hi;have U:=hv.len8 i hi;obtain ⟨l,B⟩:=hv.i1 i hi;obtain ⟨I,C⟩:=hv.i2 i hi;obtain ⟨V,J⟩:=hv.b3 i hi;obtain ⟨W,K⟩:=hv.b4 i hi;obtain ⟨L,E⟩:=hv.i5 i hi;obtain ⟨N,F⟩:=hv.i6 i hi;obtain ⟨f,G⟩:=hv.i7 i hi;obtain ⟨d,g⟩:=hv.i13 i hi;obtain ⟨O,s⟩:=hv.i14 i hi;unfold EX at q;rw [B,C,E,F,G,g] at q;have w:EX' v i l I L N f d:=q;obtain ⟨_,_,k12,P,x,k56,H,h⟩:=w;rw [B,C,J,K,E,F,G,g,s,wz];refine qc ⟨_,rfl⟩ (qc ⟨_,rfl⟩ (qc ?_ ?_))
 ·repeat' first|exact ⟨_,rfl⟩|apply qc
 by_cases k4:l=4
 ·rw [ifT k4];have e:=(x k4).up (n:=len v) (Nat.le_of_lt hi);have y:=xX p.ex (L1 (len v));have Q:Bm v=.row [.int 1,AO v (len v)]:=ew (by omega) y
  have k:len (cl v i 8)≤1000000:=by omega
  have X:=e.lo;have Y:=e.hi;have Z:=e.few;rw [Q];refine (?_:IsI (cond (decide ((1:Int)=1)) (cond (decide (f < -1048576)) _ (cond (decide ((sl (BB (l2 (!decide (1048576<f)) (!decide (4<(len (cl v i 8):Int)))) (.bool false) (.bool false)) 0).toInt=1)) (cond (decide ((sl (BB (l2 (!decide (1048576<f)) (!decide (4<(len (cl v i 8):Int)))) (.bool false) (.bool false)) 1).toInt<0)) _ _) _)) _));rw [ifT rfl,ifF (by omega),SF,AC,ll (by omega:¬1048576<f),ll (by omega:¬4<(len (cl v i 8):Int)),ifT (by show (-1:Int)<0;decide)]
  obtain ⟨r,mm,R,S⟩:=e.run;rw [R];refine (?_:IsI (cond (decide ((1:Int)=1)) (cond (decide (r<0)) (cond (cl v i 8).isNil _ _) _) _));rw [ifT rfl,ifT S];obtain ⟨z1,z⟩:=TB (t:=cl v i 8) (M:=AO v (len v)) (base:=f) (c:=true) k;have A:=fY (t:=cl v i 8) (M:=AO v (len v)) (base:=f) k e.known;rw [show sl (D.row [.int 1,AO v (len v)]) 1=AO v (len v) from rfl,z,A]
  cases hN:(cl v i 8).isNil with
  |true=>
   rw [vx];rcases Pm (t:=B0) (M:=AO v (len v)) (b:=true) (by decide) (fun j hj=>absurd hj (gk _)) (fun j hj=>absurd hj (gk _)) with ⟨u,u2⟩|⟨u,_⟩
   ·exact absurd (fun j hj=>absurd hj (gk _)) u2
   ·rw [u];exact ⟨_,rfl⟩
  |false=>
   rw [lp,ifT (by omega)]
   simp only [Bool.false_and];rcases Pm (t:=ct Ad (cl v i 8)) (M:=AO v (len v)) (b:=false) (by rw [CV];omega) (fun j hj=>by rw [E6];exact e.known j (by rw [←CV];exact hj)) (fun j hj=>by rw [E6];exact (e.terms j (by rw [←CV];exact hj)).name) with ⟨u,u2⟩|⟨u,_⟩
   ·exact absurd (fun j hj=>by rw [E6];exact e.right j (by rw [←CV];exact hj)) u2
   ·rw [u];exact ⟨_,rfl⟩
 rw [ifF k4];refine qc ⟨_,rfl⟩ (qc ⟨_,rfl⟩ ?_);by_cases k10:l=10
 ·rw [ifT k10]
  repeat' first|exact ⟨_,rfl⟩|apply qc
 rw [ifF k10];by_cases k11:l=11
 ·obtain ⟨q1,q2⟩:=h k11;have T:IntKind.wrap .i64 (d-1)=d-1:=A4 (by omega) (by omega)
  rw [ifT k11,T];refine qc ⟨_,rfl⟩ (qc ⟨_,rfl⟩ ?_);by_cases c1:d=1
  ·rw [ifT (by omega)];exact ⟨_,rfl⟩
  rw [ifF (by omega)]
  by_cases c2:d=2
  ·rw [ifT (by omega)];exact ⟨_,rfl⟩
  rw [ifF (by omega),ifT (by omega)];exact ⟨_,rfl⟩
 ·rw [ifF k11];exact ⟨_,rfl⟩
section
variable {ms M N a st nm S:D} {dp:Nat→Int}
theorem jG (b:Et a ms st=.row [.int 1,.int 0,.int 0,.int 0,.bool false]) {i k:Nat} (d:FO (cl ms i 1)) (hi:i<len ms) (e:k<len (cl ms i 1)):IsI (MZ nm (cl ms i 1) (.int (i:Nat)) a ms st (.int (k:Nat))):=by
 obtain ⟨z,f⟩:=YX (a:=nm) (m:=(i:Nat)) (o:=off (cl ms i 1) k) d e;have c:=YH (q:=k) (z:=0) d (Nat.le_of_lt e);rw [eG _ _ _ _ _ _ _ rfl rfl rfl,b,AC];refine (?_:IsI (cond false _ (cond _ _ (cond _ (cond _ _ (cond _ (cond (decide ((sl (Da (.int (k:Nat)) (.int 0) (cl ms i 1)) 0).toInt=1)) (cond _ (cond (decide ((sl (LK nm (cl ms i 1) (.int (i:Nat)) (cl (cl ms i 1) k 0) (cl (cl ms i 1) k 1) (cl (cl ms i 1) k 2) (cl (cl ms i 1) k 3) (cl (cl ms i 1) k 4) (cl (cl ms i 1) k 5) (cl (cl ms i 1) k 6) (cl (cl ms i 1) k 7) (cl (cl ms i 1) k 8) (cl (cl ms i 1) k 9) (cl (cl ms i 1) k 10) (cl (cl ms i 1) k 11) (cl (cl ms i 1) k 12) (cl (cl ms i 1) k 13) (cl (cl ms i 1) k 14) (sl (Da (.int (k:Nat)) (.int 0) (cl ms i 1)) 1)) 0).toInt=1)) (cond _ _ _) _) _) _) _)) _))));rw [lp,ifF (by omega),ifT (by omega),ifF (by omega),ifT (by omega),c,AC,ifT (by omega),show sl (D.row [.int 1,.int (off (cl ms i 1) k)]) 1=.int (off (cl ms i 1) k) from rfl,f,AC]
 exact qc ⟨_,rfl⟩ ⟨_,rfl⟩
theorem kB (b:Et a ms st=.row [.int 1,.int 0,.int 0,.int 0,.bool false]) {i:Nat} (c:FO (cl ms i 1)) (hi:i<len ms):IsI (LU (cl ms i 1) nm (cl ms i 1) (.int (i:Nat)) a ms st):=by
 have few:=c.ft.few
 have d:∀n k (m:Int),k+n=len (cl ms i 1)→IsI (Nm (.int m) (cl ms i 1) (.int (k:Nat)) nm (cl ms i 1) (.int (i:Nat)) a ms st):=by
  intro n
  induction n with
  |zero=>
   intro k m h;rw [R4,ifF (by omega)];exact ⟨_,rfl⟩
  |succ n ih=>
   intro k m h;obtain ⟨z,e⟩:=jG (nm:=nm) b c hi (k:=k) (by omega)
   rw [R4,ifT (by omega),ifF (by omega),e,AC,AL (by omega)]
   exact qc (ih (k+1) z (by omega)) (ih (k+1) m (by omega))
 rw [XD];exact d (len (cl ms i 1)) 0 0 (by omega)
theorem f8 (b:Et a ms st=.row [.int 1,.int 0,.int 0,.int 0,.bool false]) (f:len ms≤9) (c:∀i:Nat,i<len ms→FO (cl ms i 1)):IsI (My ms S a ms st):=by
 have d:∀n k (m:Int),k+n=len ms→IsI (I5 (.int m) ms (.int (k:Nat)) S a ms st):=by
  intro n
  induction n with
  |zero=>
   intro k m h;rw [LZ,ifF (by omega)];exact ⟨_,rfl⟩
  |succ n ih=>
   intro k m h;obtain ⟨z,e⟩:=kB (nm:=cl ms k 0) b (c k (by omega)) (by omega)
   rw [LZ,ifT (by omega),ifF (by omega),e,AC,AL (by omega)]
   refine qc (qc (ih (k+1) 0 (by omega)) (ih (k+1) m (by omega))) ?_
   exact qc (ih (k+1) z (by omega)) (ih (k+1) m (by omega))
 rw [ZO];exact d (len ms) 0 0 (by omega)
end
end
end Mx
set_option maxRecDepth 4000
namespace Mx
open Go Go.AE
section
variable [Ap]
theorem tgd {p:Prop} [Decidable p] {a b d e:D} (h:p→TG a d) (k:¬p→TG b e):TG (cond (decide p) a b) (cond (decide p) d e):=by
 by_cases c:p
 ·rw [ifT c,ifT c];exact h c
 ·rw [ifF c,ifF c];exact k c
theorem Nr {v nm d:D} {a b c z f:Int} (e:FO v):∀k n (o:Int) (t:Bool),n+k=len v→TG (DZ (.int o) v (.int (n:Nat)) (.int a) (.int b) (.int c) (.bool t) (.int z) nm v) (DZ (.int o) v (.int (n:Nat)) (.int a) (.int b) (.int c) (.bool t) (.int f) d v)
 |0,n,o,t,h=>by
  rw [N5 o v n a b c t z nm v,N5 o v n a b c t f d v];exact tgd (fun g=>absurd g (by omega)) fun _=>tgc (tgc (tgc tg1 tg1) tg1) tg0
 |k+1,n,o,t,h=>by
  have few:=e.ft.few;obtain ⟨q,j⟩:=S8 (o:=o) e (i:=n) (by omega)
  rw [N5 o v n a b c t z nm v,N5 o v n a b c t f d v,j,AL (by omega)]
  refine tgd (fun _=>tgc tg0 (tgc (tgc (tgc tg1 tg1) ?_) tg0)) fun g=>absurd (by omega) g
  exact tgc (Nr e k (n+1) _ q (by omega)) (tgc (Nr e k (n+1) _ q (by omega)) (tgc (tgc tg0 (Nr e k (n+1) _ q (by omega))) (Nr e k (n+1) _ q (by omega))))
theorem cM {v nm d:D} {z e:Int} (f:FO v) (h:DW (.int 0) (.int 0) (.int 0) (.bool false) (.int z) nm v v=.row [.int 2,.bool false]):DW (.int 0) (.int 0) (.int 0) (.bool false) (.int e) d v v=.row [.int 2,.bool false]:=by
 have t:sl (DW (.int 0) (.int 0) (.int 0) (.bool false) (.int z) nm v v) 0=sl (DW (.int 0) (.int 0) (.int 0) (.bool false) (.int e) d v v) 0:=by
  rw [Yc,Yc];exact Nr f (len v) 0 0 false (by omega)
 rcases Fi (nm:=d) (a:=0) (b:=0) (c:=0) (z:=e) (t:=false) f with ⟨p,q,g⟩|g
 ·rw [h,g] at t;have i:D.int 2=D.int 1:=t;cases i
 ·exact g
section
variable {ms ms' nm' v2 st:D} {j:Nat}
theorem gY (a:XT ms ms' nm' j) (c:∀i:Nat,i<len ms→FO (cl ms i 1)) (b:Al ms):Al ms':=fun i hi=>by
 have d:=a.ln;rcases R2 i (len ms) with q|q
 ·rw [a.at' i 0 q,a.at' i 1 q];exact b i q
 ·have:i=len ms:=by omega
  subst this;rw [a.nm,a.fs];exact cM (c j a.hj) (b j a.hj)
def hv (o z:Int):Int:=IntKind.wrap .i64 ((ari .quo .i64 (IntKind.wrap .i64 ((IntKind.wrap .i64 ((IntKind.wrap .i64 (o+z))+8))-1)) 8)-1)
def hdD (o z:Int):D:=cond (decide (0<hv o z)) (.row [.int 1,.int (hv o z)]) (.row [.int 1,.int 0])
section
variable {a nm:D}
theorem ax (b:Et a ms st=.row [.int 1,.int 0,.int 0,.int 0,.bool false]) {i k:Nat} {z:Int} (d:FO (cl ms i 1)) (hi:i<len ms) (e:k<len (cl ms i 1))
  (f:LK nm (cl ms i 1) (.int (i:Nat)) (cl (cl ms i 1) k 0) (cl (cl ms i 1) k 1) (cl (cl ms i 1) k 2) (cl (cl ms i 1) k 3) (cl (cl ms i 1) k 4) (cl (cl ms i 1) k 5) (cl (cl ms i 1) k 6) (cl (cl ms i 1) k 7) (cl (cl ms i 1) k 8) (cl (cl ms i 1) k 9) (cl (cl ms i 1) k 10) (cl (cl ms i 1) k 11) (cl (cl ms i 1) k 12) (cl (cl ms i 1) k 13) (cl (cl ms i 1) k 14) (.int (off (cl ms i 1) k))=.row [.int 1,.int z]) :
  MZ nm (cl ms i 1) (.int (i:Nat)) a ms st (.int (k:Nat))=hdD (off (cl ms i 1) k) z:=by
 have c:=YH (q:=k) (z:=0) d (Nat.le_of_lt e);rw [eG _ _ _ _ _ _ _ rfl rfl rfl,b,AC];refine (?_:(cond false _ (cond _ _ (cond _ (cond _ _ (cond _ (cond (decide ((sl (Da (.int (k:Nat)) (.int 0) (cl ms i 1)) 0).toInt=1)) (cond _ (cond (decide ((sl (LK nm (cl ms i 1) (.int (i:Nat)) (cl (cl ms i 1) k 0) (cl (cl ms i 1) k 1) (cl (cl ms i 1) k 2) (cl (cl ms i 1) k 3) (cl (cl ms i 1) k 4) (cl (cl ms i 1) k 5) (cl (cl ms i 1) k 6) (cl (cl ms i 1) k 7) (cl (cl ms i 1) k 8) (cl (cl ms i 1) k 9) (cl (cl ms i 1) k 10) (cl (cl ms i 1) k 11) (cl (cl ms i 1) k 12) (cl (cl ms i 1) k 13) (cl (cl ms i 1) k 14) (sl (Da (.int (k:Nat)) (.int 0) (cl ms i 1)) 1)) 0).toInt=1)) (cond _ _ _) _) _) _) _)) _)))=_);rw [lp,ifF (by omega),ifT (by omega),ifF (by omega),ifT (by omega),c,AC,ifT (by omega),show sl (D.row [.int 1,.int (off (cl ms i 1) k)]) 1=.int (off (cl ms i 1) k) from rfl,f,AC]
 rfl
theorem Uj {ms ms':D} (d:Et a ms st=.row [.int 1,.int 0,.int 0,.int 0,.bool false]) (b:Et a ms' st=.row [.int 1,.int 0,.int 0,.int 0,.bool false]) {i:Nat} (f:FO (cl ms i 1)) (hi:i<len ms) (e:i<len ms') (q:cl ms' (i:Nat) 1=cl ms (i:Nat) 1) :
  ∀n k (m:Int),k+n=len (cl ms i 1)→0≤m→∃z:Int,0≤z∧Nm (.int m) (cl ms i 1) (.int (k:Nat)) nm (cl ms i 1) (.int (i:Nat)) a ms st=.row [.int 1,.int z]∧Nm (.int m) (cl ms i 1) (.int (k:Nat)) nm (cl ms i 1) (.int (i:Nat)) a ms' st=.row [.int 1,.int z]
 |0,k,m,h,r=>by
  refine ⟨m,r,?_,?_⟩<;>rw [R4,ifF (by omega)]
 |n+1,k,m,h,r=>by
  have few:=f.ft.few;have p:k<len (cl ms i 1):=by omega
  obtain ⟨z,s⟩:=YX (a:=nm) (m:=(i:Nat)) (o:=off (cl ms i 1) k) f p;have g:=ax (nm:=nm) d f hi p s
  have u:MZ nm (cl ms i 1) (.int (i:Nat)) a ms' st (.int (k:Nat))=hdD (off (cl ms i 1) k) z:=by
   have l:=f;rw [←q] at l p s ⊢;exact ax b l e p s
  obtain ⟨y,t,v⟩:∃y:Int,0≤y∧hdD (off (cl ms i 1) k) z=.row [.int 1,.int y]:=by
   unfold hdD;by_cases c:0<hv (off (cl ms i 1) k) z
   ·exact ⟨_,Int.le_of_lt c,ifT c⟩
   ·exact ⟨0,zw _,ifF c⟩
  rw [v] at g u;rw [R4 m (cl ms i 1) k nm (cl ms i 1) i a ms,R4 m (cl ms i 1) k nm (cl ms i 1) i a ms',AL (by omega),g,u]
  obtain ⟨z1,p1,p2,p3⟩:=Uj d b f hi e q n (k+1) y (by omega) t
  obtain ⟨z2,w,x,A⟩:=Uj d b f hi e q n (k+1) m (by omega) r
  by_cases c:m<y
  ·refine ⟨z1,p1,?_,?_⟩
   ·rw [ifT (by omega),ifF (by omega),AC];exact (ifT c).trans p2
   ·rw [ifT (by omega),ifF (by omega),AC];exact (ifT c).trans p3
  ·refine ⟨z2,w,?_,?_⟩
   ·rw [ifT (by omega),ifF (by omega),AC];exact (ifF c).trans x
   ·rw [ifT (by omega),ifF (by omega),AC];exact (ifF c).trans A
theorem bS {S S':D} (e:XT ms ms' nm' j) (l:Et a ms st=.row [.int 1,.int 0,.int 0,.int 0,.bool false]) (f:Et a ms' st=.row [.int 1,.int 0,.int 0,.int 0,.bool false]) (E:len ms≤9) (s:∀i:Nat,i<len ms→FO (cl ms i 1))
  (t:∀i:Nat,i<len ms→(mIx [.str] S (.row [cl ms i 0])<0↔mIx [.str] S' (.row [cl ms i 0])<0)) (u:mIx [.str] S' (.row [nm'])<0):∃z:Int,My ms S a ms st=.row [.int 1,.int z]∧My ms' S' a ms' st=.row [.int 1,.int z]:=by
 have v:=e.ln
 have w:∀n k (m:Int),k+n=len ms→0≤m→∃z:Int,I5 (.int m) ms (.int (k:Nat)) S a ms st=.row [.int 1,.int z]∧I5 (.int m) ms' (.int (k:Nat)) S' a ms' st=.row [.int 1,.int z]:=by
  intro n
  induction n with
  |zero=>
   intro k m h o;have:k=len ms:=h;subst this;refine ⟨m,?_,?_⟩
   ·rw [LZ,ifF (by omega)]
   ·rw [LZ,ifT (by omega),ifF (by omega),e.nm,ifT u,ifF (by omega),AL (by omega),LZ,ifF (by omega)]
  |succ n ih=>
   intro k m h o;have b:k<len ms:=by omega
   obtain ⟨y,x,g,A⟩:=Uj (nm:=cl ms k 0) l f (s k b) b (by omega) (e.at' k 1 b) (len (cl ms k 1)) 0 0 (by omega) (zw _)
   have G:LU (cl ms k 1) (cl ms k 0) (cl ms k 1) (.int (k:Nat)) a ms st=.row [.int 1,.int y]:=by rw [XD];exact g
   have B:LU (cl ms k 1) (cl ms k 0) (cl ms k 1) (.int (k:Nat)) a ms' st=.row [.int 1,.int y]:=by rw [XD];exact A
   obtain ⟨z1,p1,p2⟩:=ih (k+1) y (by omega) x
   obtain ⟨z2,p,q⟩:=ih (k+1) m (by omega) o
   have iff:=t k b;rw [LZ m ms k S,LZ m ms' k S',AL (by omega),e.at' k 0 b,e.at' k 1 b,G,B]
   by_cases c:mIx [.str] S (.row [cl ms k 0])<0
   ·refine ⟨z2,?_,?_⟩
    ·rw [ifT (by omega),ifF (by omega),ifT c,ifF (by omega)];exact p
    ·rw [ifT (by omega),ifF (by omega),ifT (iff.1 c),ifF (by omega)];exact q
   ·have r:¬mIx [.str] S' (.row [cl ms k 0])<0:=fun C=>c (iff.2 C)
    by_cases d:m<y
    ·refine ⟨z1,?_,?_⟩
     ·rw [ifT (by omega),ifF (by omega),ifF c,AC];exact (ifT d).trans p1
     ·rw [ifT (by omega),ifF (by omega),ifF r,AC];exact (ifT d).trans p2
    ·refine ⟨z2,?_,?_⟩
     ·rw [ifT (by omega),ifF (by omega),ifF c,AC];exact (ifF d).trans p
     ·rw [ifT (by omega),ifF (by omega),ifF r,AC];exact (ifF d).trans q
 rw [ZO,ZO];exact w (len ms) 0 0 (by omega) (zw _)
end
end
end
end Mx
set_option maxRecDepth 4000
namespace Mx
open Go Go.AE
section
variable [Ap]
section
variable {ms ms' nm' st M M':D} {j:Nat} {dp dp':Nat→Int}
theorem Yr (a:XT ms ms' nm' j) {i:Nat} (hi:i<len ms):rfs ms' i=rfs ms i:=by unfold rfs fsI;rw [a.at' i 1 hi]
theorem rgX (a:XT ms ms' nm' j) {i:Nat} (hi:i<len ms):rg ms' i=rg ms i:=by unfold rg fsI;rw [a.at' i 1 hi]
theorem nmX (a:XT ms ms' nm' j) {i:Nat} (hi:i<len ms):nmI ms' i=nmI ms i:=a.at' i 0 hi
theorem ixX (b:XT ms ms' nm' j) (a:GP ms' (len ms') M' dp') {k:D} {i:Nat} (h:ixN ms (len ms) k=(i:Nat)):ixN ms' (len ms') k=(i:Nat):=by
 have d:=b.ln;obtain ⟨hi,c⟩:=P9 h;rw [←nmX b hi] at c;rw [←Fv c];exact JN a (by omega)
theorem gK (b:XT ms ms' nm' j) (c:GP ms (len ms) M dp) (a:GP ms' (len ms') M' dp') {i:Nat} (hi:i<len ms) {r:D} (d:r∈rfs ms i):ixI ms' r=ixI ms r:=by
 have h:=ixX b a (c.ref' hi d).2.1;have e:ixI ms' r=(ixN ms' (len ms') r).toNat:=rfl;rw [e,h];simp
theorem RGX (b:XT ms ms' nm' j) (c:GP ms (len ms) M dp) (a:GP ms' (len ms') M' dp'):∀n i,i≤n→i<len ms→RG ms' i=RG ms i:=by
 have e:=b.ln;intro n
 induction n with
 |zero=>
  intro i h hi;have f:i=0:=by omega
  subst f;rw [I8 c hi,I8 a (by omega),Yr b hi,GD c hi,rgX b hi];rfl
 |succ n ih=>
  intro i h hi;rw [I8 c hi,I8 a (by omega),Yr b hi,rgX b hi]
  congr 1
  refine Hj _ fun r d=>?_
  unfold rv;have hj:=(c.ref' hi d).1;rw [gK b c a hi d];exact ih _ (by omega) (by omega)
theorem vo {l:List D} {p q:D→Bool} (h:∀a∈l,p a=q a):l.find? p=l.find? q:=by
 induction l with
 |nil=>rfl
 |cons a t ih=>rw [List.find?_cons,List.find?_cons,h a zC,ih fun b c=>h b (zE _ c)]
theorem CHX (c:XT ms ms' nm' j) (d:GP ms (len ms) M dp) (b:GP ms' (len ms') M' dp') {i:Nat} {l:List D} (h:CH ms i l):i<len ms→CH ms' i l:=by
 induction h with
 |@stop i h=>intro hi;exact .stop (by rw [RGX c d b i i (L1 _) hi,rgX c hi];exact h)
 |@next i r l h f m ih=>
  intro hi;have g:=List.mem_of_find?_eq_some f;have hj:=(d.ref' hi g).1;have e:=RGX c d b i i (L1 _) hi;refine .next (r:=r) (by rw [e,rgX c hi];exact h) ?_ ?_
  ·rw [Yr c hi,e,rgX c hi,←f];refine vo fun a k=>?_
   have hj:=(d.ref' hi k).1;unfold rv;rw [gK c d b hi k,RGX c d b _ _ (L1 _) (by omega)]
  ·rw [gK c d b hi g];exact ih (by omega)
theorem Rch.kn (I:GP ms (len ms) M dp) {l:Nat} (J:l<len ms) (r:D.strEq (nmI ms l) st=true) {k:D} (h:Rch ms st k):∃i,i<len ms∧D.strEq (nmI ms i) k=true:=by
 cases h with
 |here h=>exact ⟨l,J,Db r h⟩
 |next h1 h2 h3 h4=>
  obtain ⟨q,hq,_,r,_⟩:=I.ref h1 h3;exact ⟨q,by omega,Db r h4⟩
theorem zo (a:XT ms ms' nm' j) (m:GP ms (len ms) M dp) {l:Nat} (n:l<len ms) (d:D.strEq (nmI ms l) st=true) (o:∀i,i<len ms→D.strEq (nmI ms i) nm'=false) {k:D}:Rch ms' st k↔Rch ms st k:=by
 have s:=a.ln;constructor
 ·intro h
  induction h with
  |here h=>exact .here h
  |@next i r k f t c g ih=>
   rcases R2 i (len ms) with q|q
   ·rw [nmX a q] at ih;rw [Yr a q] at c;exact .next q ih c g
   ·have:i=len ms:=by omega
    subst this;have e:nmI ms' (len ms)=nm':=a.nm;rw [e] at ih;obtain ⟨p,u,d⟩:=ih.kn m n d;rw [o p u] at d;cases d
 ·intro h
  induction h with
  |here h=>exact .here h
  |@next i r k f t c g ih=>
   rw [←nmX a f] at ih;rw [←Yr a f] at c;exact .next (by omega) ih c g
end
structure Rs2 (v0 v1 v2 S B:D) (dp:Nat→Int) (i:Nat) (l:List D) (z:Int):Prop where
 hi:i<len v1
 ix:ixN v1 (len v1) v2=(i:Nat)
 eq:D.strEq (nmI v1 i) v2=true
 ch:CH v1 i l
 ss:SS v1 B (len v1) S
 bt:∀k,Kn B k↔Rch v1 v2 k
 h62:My v1 S v0 v1 v2=.row [.int 1,.int z]
 h66:EU v0 v1 v2=.row [.int 1,.int z,.int (dp i),.int (RG v1 i),.int 0]
 h68:D9 v0 v1 v2=.row [.int 1,adL Ad (v2::l),.bool false,.int 0]
theorem res {v0 v1 v2 x y M N:D} {v:Nat→Int} (w:len v1≤9) (E:TD v1) (e:EH v0 v1 v2=.row [.int 1,.bool true]) (f:Do v0 v1 v2=SU v0 v1 v2 x y M N) (F:Good v1 v2 M N v) :
  ∃S B i l z,Rs2 v0 v1 v2 S B v i l z:=by
 obtain ⟨c,hM,o⟩:=F;unfold SU at f;have G:=LA f;obtain ⟨q,d,C,b,T,R,B,p,Q,r,hR,H,g,j⟩:=kG e E c w o;obtain ⟨S,s,A⟩:=iS v0 q v2 T d b c w Q r hR j (a:=v0) (st:=v2);obtain ⟨i,hi,m,n,W⟩:=c.at o;obtain ⟨l,t⟩:=CH.ex c i i (L1 _) hi;have U:=ch2 v0 v0 q v2 T d b c w Q r hR j A v2 i l m (by omega) g t
 have I:Oc v0 v1 v2 v0 q (.bool d) v2 C (.bool b) T R S=.row [.int 1,adL Ad (v2::l),.bool false,.int 0]:=U;have n21:¬(sl (D.row [.int 2,v0,q,.bool d,v2,C,.bool b,T,R]) 0).toInt=1:=by show ¬(2:Int)=1;decide
 have y22:(sl (D.row [.int 2,v0,q,.bool d,v2,C,.bool b,T,R]) 0).toInt=2:=rfl
 have J:D9 v0 v1 v2=.row [.int 1,adL Ad (v2::l),.bool false,.int 0]:=by
  rw [oY,e,AC];refine (?_:cond true _ _=_);rw [vx,p,ifF n21,ifT y22];refine (?_:cond (decide ((sl (Nk v0 v1 v2 v0 q (.bool d) v2 C (.bool b) T R) 0).toInt=1)) (Oc v0 v1 v2 v0 q (.bool d) v2 C (.bool b) T R (sl (Nk v0 v1 v2 v0 q (.bool d) v2 C (.bool b) T R) 1)) _=_);rw [s,AC];exact I
 obtain ⟨z,u⟩:=f8 (S:=S) G w c.fo
 have K:¬mIx [.str] M (.row [nmI v1 i])<0:=by
  rw [c.ix,JN c hi];omega
 have L:cl M (mIx [.str] M (.row [nmI v1 i])) 1=.int (v i):=by
  rw [c.ix,JN c hi];exact (c.cell hi).2
 have O:lk S v2=some (.int (RG v1 i)):=by
  rw [←GI A.sh n];exact A.yes i hi (g.congr r.sh (by rw [A2];exact n))
 obtain ⟨X,Y⟩:=Ef O
 have P:EU v0 v1 v2=.row [.int 1,.int z,.int (v i),.int (RG v1 i),.int 0]:=by
  rw [wc v0 v1 v2 p s u rfl f,e,AC];refine (?_:cond true _ _=_);rw [vx,ifF n21,ifT y22,AC,Mh (by omega),m,AC]
  refine (?_:cond (decide ((i:Int)<0)) _ (cond (decide ((2:Int)=1)) _ (cond (decide ((2:Int)=2)) (cond false _ (cond (decide ((i:Int)<len v1)) (cond (decide (mIx [.str] M (.row [nmI v1 i])<0)) _ (cond (decide ((1:Int)=1)) (cond (decide (mIx [.str] S (.row [v2])<0)) _ (D.row [.int 1,.int z,cl M (mIx [.str] M (.row [nmI v1 i])) 1,cl S (mIx [.str] S (.row [v2])) 1,.int 0])) _)) _)) _))=_);rw [ifF (by omega),ifF (by decide),ifT rfl,lp,ifT (by omega),ifF K,ifT rfl,ifF X,L,Y]
 refine ⟨S,B,i,l,z,hi,m,n,t,A,fun k=>⟨H k,fun h=>?_⟩,u,P,J⟩
 induction h with
 |here h=>exact g.congr r.sh h
 |next Z U h3 h4 ih=>exact (j _ Z ih _ h3).congr r.sh h4
theorem SS.lt {l B S st:D} (r:SS l B (len l) S) (t:∀k,Kn B k↔Rch l st k) {i:Nat} (hi:i<len l):mIx [.str] S (.row [nmI l i])<0↔¬Rch l st (nmI l i):=by
 constructor
 ·intro h I;obtain ⟨J,_⟩:=Ef (r.yes i hi ((t _).2 I));exact J h
 ·intro h;exact LB (r.un i hi fun hk=>h ((t _).1 hk))
end
end Mx
set_option maxRecDepth 4000
namespace Mx
open Go Go.AE
section
variable [Ap]
theorem HQ {v:D} {b:Bool} {k:Nat} {x:Int} (a:len v≤1000) (c:k<len v) (h:IntKind.wrap .u8 (cl v k 0).toInt=x) (d:97≤x) (e:x≤122):Lb v (.bool b) (.int (k:Nat))=Lb v (.bool b) (.int ((k+1:Nat):Int)):=by
 rw [dr,ifT (by omega),ifF (by omega),h,AL (by omega),ifF (by omega),ifT (by omega),ifF (by omega),ifF (by omega)]
def fur:D:=AA 7 32199646649677158
theorem aO:len (NB fur)=7:=by kernel_rfl
theorem Zf:Cx fur=7:=by kernel_rfl
theorem ij:sAt fur 0=102:=by kernel_rfl
theorem fF:Bn fur=true:=by
 have a:SG (NB fur) (.bool false)=.row [.int 1,.int (-1)]:=by
  have c:=aO;rw [sJ];refine (?_:Lb (NB fur) (.bool false) (.int ((0:Nat):Int))=_);rw [HQ (x:=102) (by omega) (by omega) (by kernel_rfl) (by decide) (by decide),HQ (x:=117) (by omega) (by omega) (by kernel_rfl) (by decide) (by decide),HQ (x:=114) (by omega) (by omega) (by kernel_rfl) (by decide) (by decide),HQ (x:=116) (by omega) (by omega) (by kernel_rfl) (by decide) (by decide),HQ (x:=104) (by omega) (by omega) (by kernel_rfl) (by decide) (by decide),HQ (x:=101) (by omega) (by omega) (by kernel_rfl) (by decide) (by decide),HQ (x:=114) (by omega) (by omega) (by kernel_rfl) (by decide) (by decide),dr,ifF (by omega)]
 have b:=Zf;unfold Bn;rw [ap,a,ij,b];refine (?_:(sl (cond (decide ((sl (BB (l2 (!decide (((7:Nat):Int)<1)) (!decide (32<((7:Nat):Int)))) (.bool false) (.bool false)) 0).toInt=1)) (cond (decide ((sl (BB (l2 (!decide (((7:Nat):Int)<1)) (!decide (32<((7:Nat):Int)))) (.bool false) (.bool false)) 1).toInt<0)) _ _) _) 1).toBool=true);rw [SF];rfl
theorem CH.uniq {t:D} {i:Nat} {l:List D} (h:CH t i l):∀{r},CH t i r→l=r:=by
 induction h with
 |stop h=>
  intro r h';cases h' with
  |stop _=>rfl
  |next g _ _=>exact absurd h g
 |next h J hc ih=>
  intro r h';cases h' with
  |stop g=>exact absurd g h
  |next g I gc=>
   rw [J] at I;cases I;rw [ih gc]
def ext (v1:D) (j:Int):D:=ni (ad (ct Ad v1) (.row [fur,cl v1 j 1])) ((false&&decide ((len v1:Int)=0))&&decide ((1:Int)=0))
theorem lu {v1:D} {j:Nat} (hj:j<len v1):XT v1 (ext v1 (j:Nat)) fur j:=by
 have a:len (ct Ad v1)=len v1:=CV;refine ⟨?_,fun i c hi=>?_,?_,?_,hj⟩
 ·unfold ext;rw [gP,Dv,a]
 ·unfold ext;rw [YM,EO (by omega),if_neg (by omega),E6]
 ·unfold ext;rw [YM,EO (by omega),if_pos (by omega)];rfl
 ·unfold ext;rw [YM,EO (by omega),if_pos (by omega)];rfl
theorem law {v0 v1 v2:D} {t:Int} (h0:0≤t) (F:t≤255) (ht:∀m:Nat,m<len v1→FK (cl v1 m 1)) (d:TD v1):eK v0 v1 v2 (.int t)=.row [.int 1,.bool true]:=by
 rw [xV];rcases pK (v0:=v0) (v1:=v1) (v2:=v2) with g|⟨g,I,Z⟩
 ·rw [g];rfl
 rw [g,AC];refine (?_:cond true _ _=_);rw [vx];by_cases h8:8<(len v1:Int)
 ·rw [ifT h8]
 rw [ifF h8];have hl:len v1≤8:=by omega
 have hv:∀m:Nat,m<len v1→FT (cl v1 m 1):=fun m u=>by
  obtain ⟨s1,s2⟩:=Z m u;obtain ⟨a1,a2,a3,a4,a5,a6,a7,a8,a9,a10,a11⟩:=ht m u;exact ⟨a1,a2,a3,a4,a5,a6,a7,a8,a9,s1,a10,fun i hi=>(s2 i hi).2,fun i hi=>(s2 i hi).1,a11⟩
 rcases ka (v0:=v0) (v2:=v2) I hv with w|⟨w,⟨x,y,M,N,dp,J,A⟩,hA⟩
 ·rw [w];rfl
 rw [w,AC];refine (?_:cond true _ _=_);rw [vx,Mh (by omega),AC]
 refine (?_:cond (decide (ixN v1 (len v1) fur<0)) _ _=_);by_cases C:ixN v1 (len v1) fur<0
 ·rw [ifT C];obtain ⟨i0,ah,ae,af,_⟩:=A.1.at A.2.2;have hw:IntKind.wrap .i64 t=t:=A4 (by omega) (by omega)
  have P:ari .rem .i64 t (len v1:Int)=t%(len v1:Int):=ES (by omega) h0
  have r0:0≤t%(len v1:Int):=Int.emod_nonneg _ (by omega)
  have r1:t%(len v1:Int)<len v1:=Int.emod_lt_of_pos _ (by omega)
  obtain ⟨j,hj⟩:=vv r0;have ai:len (ct Ad v1)=len v1:=CV;rw [hw,P,hj,ifF (by omega),ifF (by omega),ifT (by omega),ifT (by omega)]
  have Q:j<len v1:=by omega
  have c:=lu Q;have aj:=c.ln;have s:=A.1;have R:mIx [.str] M (.row [fur])<0:=by rw [s.ix];exact C
  obtain ⟨x',y',M',N',aa,f,n,ab⟩:=fI c hl hv J s fF R;have K:=n.1
  have T:TD (ext v1 (j:Nat)):=by
   have e:∀m,m<len (ext v1 (j:Nat))→∃G,G<len v1∧cl (ext v1 (j:Nat)) (m:Nat) 1=cl v1 (G:Nat) 1:=fun m u=>by
    rcases R2 m (len v1) with q|q
    ·exact ⟨m,q,c.at' m 1 q⟩
    ·have:m=len v1:=by omega
     subst this;exact ⟨j,Q,c.fs⟩
   refine ⟨?_,fun h=>?_,fun m u=>?_,fun m u=>?_,fun m u i hi=>?_⟩
   ·unfold ext;refine eZ fun r hr=>?_
    rcases rc.1 hr with q|q
    ·rcases rc.1 q with q|q
     ·cases q
     ·exact d.wd r q
    ·rw [vy.1 q];exact ⟨_,rfl,rfl⟩
   ·unfold ext at h;simp [ni] at h;cases h
   ·obtain ⟨G,F,U⟩:=e m u;rw [U];exact d.fw G F
   ·obtain ⟨G,F,U⟩:=e m u;rw [U];exact d.fn G F
   ·obtain ⟨G,F,U⟩:=e m u;rw [U] at hi ⊢;exact d.n12 G F i hi
  have V:EH v0 (ext v1 (j:Nat)) v2=.row [.int 1,.bool true]:=br (by omega) ⟨x',y',M',N',aa,f,n⟩ (gY c s.fo hA)
  obtain ⟨S,B,i,l,z,r⟩:=res I d w J A;obtain ⟨S',B',O,o,z',E⟩:=res (by omega) T V f n
  have W:∀i,i<len v1→D.strEq (nmI v1 i) fur=false:=fun i hi=>In (p:=fun i=>D.strEq (nmI v1 i) fur) (k:=len v1) (i:=0) (by omega) (.inr ⟨C,by omega⟩)
  have hR:=fun {k:D}=>zo (k:=k) c s r.hi r.eq W
  have ei:O=i:=by
   have F:=E.ix;rw [ixX c K r.ix] at F;omega
  subst ei;have el:o=l:=E.ch.uniq (CHX c s K r.ch r.hi);subst el
  have ez:z'=z:=by
   obtain ⟨z0,q1,q2⟩:=bS (S:=S) (S':=S') (a:=v0) (st:=v2) c (LA J) (LA f) I s.fo (fun i hi=>by
    have a1:=r.ss.lt r.bt hi;have a2:=E.ss.lt E.bt (i:=i) (by omega)
    rw [nmX c hi] at a2;have X:nmI v1 i=cl v1 i 0:=rfl;rw [←X,a1,a2,hR]) (by
    have a2:=E.ss.lt E.bt (i:=len v1) (by omega)
    have X:nmI (ext v1 (j:Nat)) (len v1)=fur:=c.nm;rw [X,hR] at a2;refine a2.2 fun hk=>?_
    obtain ⟨q,hq,Z⟩:=hk.kn s r.hi r.eq;rw [W q hq] at Z;cases Z)
   have w1:=r.h62;have w2:=E.h62;rw [q1] at w1;rw [q2] at w2;cases w1;cases w2;rfl
  subst ez;have H:=E.h66;rw [ab _ r.hi,RGX c s K _ _ (L1 _) r.hi] at H;have Y:=E.h68;have X:EU v0 (ni (ad (ct Ad v1) (.row [(AA 7 32199646649677158),(cl v1 (j:Nat) 1)])) (((false&&decide ((len v1:Int)=0))&&decide (1=0)))) v2=_:=H;have e2:D9 v0 (ni (ad (ct Ad v1) (.row [(AA 7 32199646649677158),(cl v1 (j:Nat) 1)])) (((false&&decide ((len v1:Int)=0))&&decide (1=0)))) v2=_:=Y;have L:(adL Ad (v2::o)).rows=nms (v2::o):=by have:=RA (v2::o) [] Ad rfl;exact this
  have ag:len (adL Ad (v2::o))=o.length+1:=by unfold len;rw [L];simp [nms]
  have ak:=r.ch.len s r.hi;have al:=s.low O r.hi;have ac:=Yy (v:=adL Ad (v2::o)) (b:=false) (b':=false) (by omega)
  rw [r.h66,X,r.h68,e2,AC,AC,AC,AC];refine (ifT (by rfl)).trans ?_
  refine (?_:cond (decide (z'=z')&&(decide (dp O=dp O)&&decide (RG v1 O=RG v1 O))) (cond (decide ((sl (NU (adL Ad (v2::o)) (.bool false) (adL Ad (v2::o)) (.bool false)) 0).toInt=1)) (cond ((sl (NU (adL Ad (v2::o)) (.bool false) (adL Ad (v2::o)) (.bool false)) 1).toBool) _ _) _) _=_);rw [ac,oj rfl,oj rfl,oj rfl];rfl
 ·rw [ifF C]
end
theorem rng {P:Program} {ts:List TypeId} {n:Int} {g i j:D} (h:LC P ts [g,i,j,.int n]) (l:Br (Env.of P) ts=some [.str,.slice 44,.str,.int .u8]):0≤n∧n≤255:=by
 obtain ⟨ks,cs,M,e,b,_⟩:=h;rw [l] at e;cases e
 match cs,b with
 |c0::c1::c2::c::cs,b=>
  have h:=b.2.2.2.1;generalize o:(D.int n)=x at h;cases h with
  |int k m d a f=>
   subst o;have f:n=m:=f;subst f;rcases a with a|a
   ·cases a
   ·exact a
end Mx

