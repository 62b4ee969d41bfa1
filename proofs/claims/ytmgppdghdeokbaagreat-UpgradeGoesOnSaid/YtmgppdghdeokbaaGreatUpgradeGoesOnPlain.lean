/- What is proved: what the plain functions over data say, whose trees the text before writes out: the law UpgradeGoesOn answers true. Conditions: those that each theorem states. -/
import Derived.Test.YtmgppdghdeokbaaGreatUpgradeGoesOnPlainB
set_option linter.unusedVariables false
set_option linter.unusedSectionVars false
set_option linter.unusedSimpArgs false
namespace Ug
open Go Go.AE
structure Ck (S C S' C' P Q:D):Prop where
 np:len P≤30
 nq:len Q≤8
 q:Hq Q
 tp:∀i,i<len P→Oq P i=false
 tq:∀i,i<len Q→Oq Q i=false
 sp:∀i,i<len P→0≤fd S' (cl P i 1)
 cq:∀i,i<len Q→0≤pl C' Q i
theorem jt [Ai] {v0 S C T c d b f P Q:D} {a:Int} (hp:len P≤30) (l:len Q≤8) (m:Hq Q) (h:chk v0 S C T c d b f P Q=.row [.int 1,.int a,.int 0]):rok v0 S C T=true∧rok c d b f=true∧Ck S C d b P Q:=by
 unfold chk at h;cases r1:rok v0 S C T
 ·rw [r1] at h;cases h
 cases r2:rok c d b f
 ·rw [r1,r2] at h;cases h
 rw [r1,r2,B4,B4] at h;by_cases c1:24<(len P:Int)
 ·rw [ifT c1] at h;cases h
 rw [ifF c1] at h;by_cases c2:fdG (GZ S d P) (len P) 0<0;rotate_left
 ·rw [ifF c2] at h;cases h
 rw [ifT c2] at h;by_cases c3:4<(len Q:Int)
 ·rw [ifT c3] at h;cases h
 rw [ifF c3] at h;by_cases c4:fdG (G0 C b Q) (len Q) 0<0;rotate_left
 ·rw [ifF c4] at h;cases h
 have g:∀i,i<len P→GZ S d P i=false:=fun i hi=>Dq (p:=GZ S d P) (k:=len P) (i:=0) (j:=i) (by omega) (.inr ⟨c2,by omega⟩)
 have e:∀i,i<len Q→G0 C b Q i=false:=fun i hi=>Dq (p:=G0 C b Q) (k:=len Q) (i:=0) (j:=i) (by omega) (.inr ⟨c4,by omega⟩)
 refine ⟨rfl,rfl,hp,l,m,fun i hi=>?_,fun i hi=>?_,fun i hi=>?_,fun i hi=>?_⟩
 ·have:=g i hi;unfold GZ at this;simp only [K1] at this;exact this.2.2
 ·have:=e i hi;unfold G0 at this;simp only [K1] at this;exact this.2.2.1
 ·have:=g i hi;unfold GZ at this;simp only [K1,L2] at this;omega
 ·have:=e i hi;unfold G0 at this;simp only [K1,L2] at this;show 0≤fd b (cl Q i 0);omega
def xk (C:D) (k:Key):D:=dJ (kc k) (len C)
theorem Vb {S C:D} {k:Key} (a:KOk S C k) (j:Nat):kv (xk C k) j=kc k j:=by
 unfold kv xk;rw [bY];by_cases c:j<len C
 ·rw [if_pos c,cO c];rfl
 ·rw [if_neg c,a.v1 j (by omega)]
def cvK (S C b a P Q:D) (k:Key):Option Key:=
 if fd P (cl S k.1 0)<0 then none
 else if fdG (Gj C a Q (xk C k)) (len Q) 0<0 then some (fd b (cl P (fd P (cl S k.1 0)) 1),vs C a Q (xk C k) 0 (len Q),vs C a Q (xk C k) 1 (len Q),vs C a Q (xk C k) 2 (len Q),vs C a Q (xk C k) 3 (len Q))
 else none
def cvE (S C a b P Q:D) (k:Key):Int:=if fd P (cl S k.1 0)<0 then 9 else 3
def cvD (S C a b P Q:D) (k:Key):D:=match cvK S C a b P Q k with
 |some n=>.row [.int 1,(.int n.1),(.int n.2.1),(.int n.2.2.1),(.int n.2.2.2.1),(.int n.2.2.2.2),.int 0]
 |none=>.row [.int 1,.int 0,.int 0,.int 0,.int 0,.int 0,.int (cvE S C a b P Q k)]
theorem YA [Ai] {S C T f d q P Q:D} (hR:Rk S C T) (g:Rk f d q) (hC:Ck S C f d P Q) {k n:Key} (h:cvK S C f d P Q k=some n):KOk f d n:=by
 have r:=g.c1;unfold cvK at h;by_cases a:fd P (cl S k.1 0)<0
 ·rw [if_pos a] at h;cases h
 rw [if_neg a] at h;by_cases b:fdG (Gj C d Q (xk C k)) (len Q) 0<0;rotate_left
 ·rw [if_neg b] at h;cases h
 rw [if_pos b] at h;have lt:=Da (l:=P) (key:=cl S k.1 0);have sp:=hC.sp (fd P (cl S k.1 0)).toNat (by omega)
 rw [show (((fd P (cl S k.1 0)).toNat:Nat):Int)=fd P (cl S k.1 0) by omega] at sp
 have s:=Da (l:=f) (key:=cl P (fd P (cl S k.1 0)) 1)
 have nv:∀j,vs C d Q (xk C k) j (len Q)=0∨(j<len d∧0≤vs C d Q (xk C k) j (len Q)∧vs C d Q (xk C k) j (len Q)≤(cl d j 1).toInt):=fun j=>by
  rcases sq (v2:=C) (v6:=d) (v9:=Q) (aA:=xk C k) (j:=j) (i:=len Q) with e|⟨i,h1,t,u⟩
  ·exact .inl e
  ·right;have l1:pl d Q i<len d:=Da;have no:=Dq (p:=Gj C d Q (xk C k)) (k:=len Q) (i:=0) (j:=i) (by omega) (.inr ⟨b,by omega⟩)
   unfold Gj at no;simp only [K1,L2] at no;rw [t] at no;rw [u];omega
 have o:∀j,j<4→kc n j=vs C d Q (xk C k) j (len Q):=fun j m=>by
  cases h
  match j with
  |0=>rfl
  |1=>rfl
  |2=>rfl
  |3=>rfl
  |j+4=>omega
 have n1:n.1=fd f (cl P (fd P (cl S k.1 0)) 1):=by cases h;rfl
 refine ⟨by omega,by omega,fun j m=>?_,fun j m=>?_⟩
 ·rw [o j (by omega)]
  have l:=g.lim j m;rcases nv j with e|e<;>omega
 ·by_cases c:j<4
  ·rw [o j c];rcases nv j with e|e
   ·exact e
   ·omega
  ·exact TG (by omega)
section
variable [Ai]
variable {v0 S C T v0' S' C' T' P Q:D}
theorem hU (hR:Rk S C T) (d:Rk S' C' T') (hC:Ck S C S' C' P Q) {k:Key} (c:KOk S C k) :
  Ox v0 S C T v0' S' C' T' P Q (.int k.1) (.int k.2.1) (.int k.2.2.1) (.int k.2.2.2.1) (.int k.2.2.2.2)=cvD S C S' C' P Q k:=by
 have f:=hR.c1;have e:=d.c1;have s0:=c.s0;have s1:=c.s1;have g:=d.s1;have np:=hC.np;have nq:=hC.nq;have F:=Yr (v0:=v0) (v1:=S) (v2:=C) (v3:=T) (v4:=v0') (v5:=S') (v6:=C') (v7:=T') (v8:=P) (v9:=Q) (aA:=xk C k) (st:=k.1.toNat) hC.q (by omega) (by omega) (by omega) f e (by omega) hC.cq
 rw [show ((k.1.toNat:Nat):Int)=k.1 by omega,Vb c,Vb c,Vb c,Vb c] at F
 refine F.trans ?_;unfold cvD cvK cvE;by_cases a:fd P (cl S k.1 0)<0
 ·rw [ifT a,if_pos a,if_pos a]
 rw [ifF a,if_neg a,if_neg a];by_cases b:fdG (Gj C C' Q (xk C k)) (len Q) 0<0
 ·rw [ifT b,if_pos b]
 ·rw [ifF b,if_neg b]
def lL (S C S' C' P Q:D) (k:Key):Option PK:=(cvK S C S' C' P Q k).map fun n=>(k,n)
def L3 (S C S' C' P Q:D) (ks:List Key):List PK:=ks.filterMap (lL S C S' C' P Q)
omit [Ai] in
theorem Xd {k:Key} {ks:List Key}:L3 S C S' C' P Q (k::ks)=match cvK S C S' C' P Q k with|some n=>(k,n)::L3 S C S' C' P Q ks|none=>L3 S C S' C' P Q ks:=by
 unfold L3;rw [List.filterMap_cons];unfold lL;cases cvK S C S' C' P Q k<;>rfl
omit [Ai] in
theorem Yx {ks:List Key}:(L3 S C S' C' P Q ks).length≤ks.length:=List.length_filterMap_le _ _
theorem dW (hR:Rk S C T) (a:Rk S' C' T') (hC:Ck S C S' C' P Q) {ks:List Key} (h:Oa S C ks):UH S C S' C' (L3 S C S' C' P Q ks):=by
 intro p hp;obtain ⟨k,b,e⟩:=List.mem_filterMap.1 hp;unfold lL at e;cases c:cvK S C S' C' P Q k with
 |none=>rw [c] at e;cases e
 |some n=>
  rw [c] at e;cases e;exact ⟨h k b,YA hR a hC c⟩
theorem Nt (hR:Rk S C T) (d:Rk S' C' T') (hC:Ck S C S' C' P Q) {ks:List Key} (h:Oa S C ks) (hn:ks.length<10000) {fl:Bool}:∀(rem pre:List Key) (a:List PK),ks=pre++rem→a.length≤pre.length→
  L5 (AP a) (.bool a.isEmpty) (BG ks) (.bool fl) (.int (ks.length:Nat)) (.int (pre.length:Nat)) v0 S C T v0' S' C' T' P Q=L5 (AP (a++L3 S C S' C' P Q rem)) (.bool (a++L3 S C S' C' P Q rem).isEmpty) (BG ks) (.bool fl) (.int (ks.length:Nat)) (.int (ks.length:Nat)) v0 S C T v0' S' C' T' P Q
 |[],pre,a=>fun e hl=>by
  have:ks.length=pre.length:=by rw [e];simp
  rw [this,show a++L3 S C S' C' P Q []=a from i0 _]
 |k::rem,pre,a=>fun e hl=>by
  have b:ks[pre.length]?=some k:=by rw [e];simp
  have hp:pre.length<ks.length:=by rw [e];simp
  have i:=h k (by rw [e];simp)
  have j:ks=(pre++[k])++rem:=by rw [e];simp
  have f:(pre++[k]).length=pre.length+1:=by simp
  have l:Ox v0 S C T v0' S' C' T' P Q (cl (BG ks) (pre.length:Nat) 0) (cl (BG ks) (pre.length:Nat) 1) (cl (BG ks) (pre.length:Nat) 2) (cl (BG ks) (pre.length:Nat) 3) (cl (BG ks) (pre.length:Nat) 4)=cvD S C S' C' P Q k:=by
   rw [BF b,BF b,BF b,BF b,BF b];exact hU hR d hC i
  rw [bP (h0:=rfl) (h1:=l),ifT (by omega),ifF (by omega),Gf,ifT (by omega),AR (by omega),BF b,BF b,BF b,BF b,BF b,Xd]
  unfold cvD;cases c:cvK S C S' C' P Q k with
  |none=>
   have g:=Nt (fl:=fl) hR d hC h hn rem (pre++[k]) a j (by omega)
   rw [f] at g;dsimp +instances only [Az,Ay,Ao,Ap];rw [ifT (by rfl),ifF (by unfold cvE;split<;>omega)]
   exact g
  |some n=>
   have g:=Nt (fl:=fl) hR d hC h hn rem (pre++[k]) (a++[(k,n)]) j (by simp;omega)
   rw [f,show (a++[(k,n)]).isEmpty=false by simp,List.append_assoc] at g
   dsimp +instances only [Az,Ay,Ao,Ap];rw [ifT (by rfl),ifT (by rfl),Ds,ifT (by omega)]
   have m:ad (AP a) (.row (DW (k,n)))=AP (a++[(k,n)]):=ZV;refine Eq.trans ?_ g;rw [←m];rfl
def res (S C T S' C' T' P Q:D):Option PK×List PK:=srP S C T S' C' T' 4000 ((L3 S C S' C' P Q (DQ S C T)).foldl BY []) 0
theorem j6 (hR:Rk S C T) (d:Rk S' C' T') (hC:Ck S C S' C' P Q) {a:Int} (h:Cq v0 S C T v0' S' C' T' P Q=.row [.int 1,.int a,.int 0]) :
  (2000<(DQ S C T).length∧Ey v0 S C T v0' S' C' T' P Q=.row [.int 1,CX 0 0,Aw,CX 0 0,Aw,.int 0,.int 0,.bool false,.int 7])∨
  ((DQ S C T).length≤2000∧match res S C T S' C' T' P Q with
   | (none,e)=>Ey v0 S C T v0' S' C' T' P Q=cond (decide (4000<(e.length:Int))) (.row [.int 1,CX 0 0,Aw,CX 0 0,Aw,.int 0,.int 0,.bool false,.int 7]) (.row [.int 1,CX 0 0,Aw,CX 0 0,Aw,.int 0,.int 0,.bool true,.int 0])
   | (some p,e)=>∃x f,POk S C S' C' p∧Cf S C p.1 (cl S p.1.1 0) x∧Cf S' C' p.2 (cl S' p.2.1 0) f∧(flt S C T S' C' T' p).1≠0∧
     Ey v0 S C T v0' S' C' T' P Q=.row [.int 1,cl S p.1.1 0,x,cl S' p.2.1 0,f,.int ((flt S C T S' C' T' p).1:Nat),.int ((flt S C T S' C' T' p).2:Nat),.bool false,.int 0]):=by
 have ok:Oa S C (DQ S C T):=V5 hR fun k i=>by rw [Ts.1 i];exact Wl hR
 have W:=kw (v0:=v0) hR;rw [sO (h0:=W),h];dsimp +instances only [Az,Ay,Ao,Ap];rw [ifT (by rfl),ifT (by rfl),ifT (by rfl)]
 by_cases g:2000<(DQ S C T).length
 ·exact .inl ⟨g,ifT (by omega)⟩
 ·refine .inr ⟨by omega,?_⟩
  have L:=Nt (v0:=v0) (v0':=v0') (fl:=(DQ S C T).isEmpty) hR d hC ok (by omega) (DQ S C T) [] [] rfl (C1 _)
  rw [List.nil_append] at L;have fl:=Yx (S:=S) (C:=C) (S':=S') (C':=C') (P:=P) (Q:=Q) (ks:=DQ S C T);have O:=ma (v0:=v0) (v0':=v0') (w8:=CX 0 0) (w9:=Aw) (w11:=CX 0 0) (w12:=Aw) (b10:=true) (b13:=true) (i14:=0) (i15:=0) hR d (b:=(L3 S C S' C' P Q (DQ S C T)).isEmpty) (by omega) (dW hR d hC ok)
  rw [ifF (by omega),Gf,show L5 Aw (.bool true) (BG (DQ S C T)) (.bool (DQ S C T).isEmpty) (.int ((DQ S C T).length:Nat)) (.int 0) v0 S C T v0' S' C' T' P Q=_ from L]
  show match res S C T S' C' T' P Q with
   | (none,e)=>_
   | (some p,e)=>_
  have O:cN S C S' C' T T' v0 v0' (CX 0 0) Aw (CX 0 0) Aw (.int 0) (.int 0) _ (res S C T S' C' T' P Q):=O;cases c:res S C T S' C' T' P Q with
  |mk a e=>
   rw [c] at O;cases a with
   |none=>
    have O:_=_:=O;show _=_;rw [bP (h0:=O) (h1:=rfl),ifF (by omega)]
    dsimp +instances only [Az,Ay,Ao,Ap];rw [ifT (by rfl)]
    cases decide (4000<(e.length:Int))<;>rfl
   |some p=>
    obtain ⟨x,f,o1,o2,o3,o4,O⟩:=O;refine ⟨x,f,o1,o2,o3,o4,?_⟩;rw [bP (h0:=O) (h1:=rfl),ifF (by omega)]
    dsimp +instances only [Az,Ay,Ao,Ap];rw [ifT (by rfl),E9,F1 (by omega)]
end
end Ug
namespace Ug
open Go Go.AE
section
variable [Ai]
theorem aS {a:List Key} {k:Key}:k∈Fg a k:=by
 unfold Fg;split
 ·assumption
 ·simp
theorem bN {b:List Key} {k a:Key} (h:a∈b):a∈Fg b k:=by
 unfold Fg;split
 ·exact h
 ·exact List.mem_append_left _ h
theorem Zw {a:List Key} {k:Key} {j:Nat} (h:j<a.length):(Fg a k)[j]?=a[j]?:=by
 unfold Fg;split
 ·rfl
 ·exact Ea h
theorem J7 {S C T:D} {k:Key} {a:List Key} {s:Nat} {l:List Nat}:CR S C T k a (s::l)=CR S C T k (Fg a (nx S C T k s)) l:=rfl
theorem I1 {S C T:D} {k a:Key}:∀{l:List Nat} {ks:List Key},a∈ks→a∈CR S C T k ks l
 |[],ks,h=>h
 |s::l,ks,h=>by
  rw [J7];exact I1 (bN h)
theorem Rm {S C T:D} {k:Key} {s:Nat}:∀{l:List Nat} {ks:List Key},s∈l→nx S C T k s∈CR S C T k ks l
 |[],ks,h=>by cases h
 |a::l,ks,h=>by
  rw [J7];rcases F5.1 h with e|h
  ·rw [e];exact I1 aS
  ·exact Rm h
theorem RN {S C T:D} {k:Key} {j:Nat}:∀{l:List Nat} {ks:List Key},j<ks.length→(CR S C T k ks l)[j]?=ks[j]?
 |[],ks,h=>rfl
 |s::l,ks,h=>by
  rw [J7,RN (ge h UZ),Zw h]
theorem KZ {S C T:D}:∀{f:Nat} {ks:List Key} {i:Nat},(∀(j:Nat) (k:Key),j<i→ks[j]?=some k→∀s∈enl S C T k,nx S C T k s∈ks)→(GX S C T f ks i).length≤i+f→JJ S C T (GX S C T f ks i)
 |0,ks,i,h,hl=>by
  have hl:ks.length≤i:=hl;intro k g s hs;obtain ⟨j,b⟩:=List.mem_iff_getElem?.1 g
  have:j<ks.length:=by
   rcases F8 j ks.length with q|q
   ·exact q
   ·rw [show (GX S C T 0 ks i)=ks from rfl,E4 q] at b
    cases b
  exact h j k (by omega) b s hs
 |f+1,ks,i,h,hl=>by
  rw [GX] at hl ⊢;cases e:ks[i]? with
  |some k=>
   rw [e] at hl;refine KZ (ks:=PO S C T ks k) (i:=i+1) ?_ (by have:(GX S C T f (PO S C T ks k) (i+1)).length≤i+(f+1):=hl;omega)
   intro j a b d s hs
   have hi:i<ks.length:=by
    rcases F8 i ks.length with q|q
    ·exact q
    ·rw [E4 q] at e;cases e
   have d:(CR S C T k ks (enl S C T k))[j]?=some a:=d;rw [RN (by omega)] at d
   show nx S C T a s∈CR S C T k ks (enl S C T k);by_cases c:j<i
   ·exact I1 (h j a c d s hs)
   ·have l:j=i:=by omega
    rw [l,e] at d;injection d with d
    rw [←d] at hs ⊢;exact Rm hs
  |none=>
   show JJ S C T ks;have hn:=List.getElem?_eq_none_iff.1 e;intro k g s hs;obtain ⟨j,b⟩:=List.mem_iff_getElem?.1 g
   have:j<ks.length:=by
    rcases F8 j ks.length with q|q
    ·exact q
    ·rw [E4 q] at b;cases b
   exact h j k (by omega) b s hs
theorem Rs {S C T:D} {a:Key}:∀{f:Nat} {b:List Key} {i:Nat},a∈b→a∈GX S C T f b i
 |0,b,i,h=>h
 |f+1,b,i,h=>by
  rw [GX];split
  ·exact Rs (I1 h)
  ·exact h
theorem K0 {S C T:D} (h:(DQ S C T).length≤2000):JJ S C T (DQ S C T):=KZ (i:=0) (fun j k a=>by omega) (by have:(GX S C T 2000 [Mw] 0).length≤2000:=h;omega)
theorem kD {S C T:D}:Mw∈DQ S C T:=Rs (Ts.2 rfl)
end
end Ug
namespace Ug
open Go Go.AE
section
variable [Ai]
variable {S C T:D} {n:Nat} {m:MS} {r:RS}
theorem f6 (h:Inv S C T n m r) {k:Nat} (c:k<len T) {a:Bool} (b:GP C r.vals T r.at' a k=true):k∈enl S C T (Bb S C r):=by
 unfold GP at b;simp only [B1] at b;obtain ⟨h1,h2,_⟩:=b;unfold enl;rw [i9];refine ⟨List.mem_range'.2 ⟨k,c,by omega⟩,?_⟩
 unfold en;rw [B1];have e:D.strEq (cl S (Bb S C r).1 0) r.at'=true:=Oi h.at0;refine ⟨Gl h1 (by rw [AM];exact e),?_⟩
 have c1:=h.rk.c1;have lv:=h.bk.lv;rcases h.rk.ctr k c with ⟨_,d⟩|⟨e1,d,_⟩
 ·rw [d];rfl
 ·have lt:=Da (l:=C) (key:=cl T k 5)
  have q:kc (Bb S C r) (fd C (cl T k 5)).toNat=(cl r.vals (fd C (cl T k 5)) 0).toInt:=by
   rw [JT (by omega)]
   unfold kv;rw [if_pos (by omega),show (((fd C (cl T k 5)).toNat:Nat):Int)=fd C (cl T k 5) by omega]
  rw [q];unfold alw at h2;rw [e1,R1] at h2;rw [h2,Bool.or_true]
theorem WV (h:Inv S C T n m r) {k:Nat} (b:k<len T) (t:Int):Bb S C (NW C T r t k)=nx S C T (Bb S C r) k:=by
 have c1:=h.rk.c1;have lv:=h.bk.lv
 have key:∀j:Nat,j<4→kv (Gc C T r.vals k) j=nv C T (Bb S C r) k j:=by
  intro j e;unfold nv;rw [JT e];unfold Gc;rcases h.rk.ctr k b with ⟨e1,a⟩|⟨e1,a,_⟩
  ·rw [e1,B4,if_neg (by omega)]
  ·have lt:=Da (l:=C) (key:=cl T k 5);rw [e1,E9];unfold kv;rw [CA];by_cases c:j<len r.vals
   ·rw [if_pos c,if_pos c,Cl h.bk.wv (by omega) a (by omega) (by omega)]
    by_cases d:fd C (cl T k 5)=j
    ·rw [if_pos d,if_pos ⟨d.symm,rfl⟩,d];rfl
    ·rw [if_neg d,if_neg (fun x=>d x.1.symm)]
   ·rw [if_neg c,if_neg c,if_neg (by omega)]
 show (fd S (cl T k 1),kv (Gc C T r.vals k) 0,kv (Gc C T r.vals k) 1,kv (Gc C T r.vals k) 2,kv (Gc C T r.vals k) 3)=_;rw [key 0 (by omega),key 1 (by omega),key 2 (by omega),key 3 (by omega)]
 rfl
end
end Ug
namespace Ug
open Go Go.AE
section
variable [Ai]
variable {S C T N X:D}
theorem jX (hs:len S<1000) (key X:D):OF S key X=.row [.int 1,.int (fd S key)]:=(mR ..).trans (EK (F:=fun i=>VN S (.int i) key X) (by omega) fun i=>sQ ..)
theorem bz (rk:Rk S C T) (so:PI S) (n1:Bf S) (n2:Bf C) (n3:Bf T) (hs:GU N S C T=0) {k:Key} (f:KOk S C k) {key:D} (e:Cf S C k key X) {now:Int} (t0:0≤now) (t1:now≤1099511627776) :
  ∃(m:MS) (r:RS),AG N S C T key X (.int now)=.row [.int 2,m.nm,m.st,.bool m.stn,m.ct,.bool m.ctn,m.sp,.bool m.spn,m.an,.bool m.af,.int m.aw,Aw,m.b,.bool m.bn,.int m.now,m.dn,m.hp,.bool m.hn,m.due]∧
   Inv S C T 2 m r∧m.ov=false∧m.ev=Aw∧m.en=true∧m.nm=N∧(m.stn=true→S.rows=[])∧(m.ctn=true→C.rows=[]):=by
 have s1:=rk.s1;have M:=f.s0;have O:=Cf.fd rk f e;obtain ⟨m,r,p1,h,x1,x2,x3,x4,x5,x6,x7,x8,x9,x10⟩:=jO rk so n1 n2 n3 hs;obtain ⟨g,y1,y4⟩:=Zb (bn:=m.bn) rk h.bk e.w e.l fun i hi=>⟨_,e.v i hi,f.v0 i hi⟩
 have B:len g=len m.b:=by rw [y4.lb,h.bk.lb]
 rw [wE (h0:=p1) (h1:=rfl) (h2:=rfl) (h3:=rfl),jX s1];simp only [A5,AX,tI,tB,B5,B4];rw [y1];simp only [A5,AX,tI,tB,B5,B4];rw [ifF (by omega),ifF (by omega),ifF (by omega)]
 obtain ⟨o,E,P⟩:=h.o;have hl:=h.hl;rw [x2] at *;obtain ⟨out,on,n,a,F,Q,G⟩:=Z0 (now:=0) (t:=now) E (by omega) (by omega) (by omega)
 have H:∃A,CK a m.dn n m.hn A:=by
  rcases G with ⟨_,_,_,_,q⟩|⟨_,_,q⟩
  ·exact ⟨_,q⟩
  ·exact ⟨_,q⟩
 obtain ⟨A,p⟩:=H;obtain ⟨s,u,x,c,d,y,I,J,K,R,L⟩:=Jv so s1 rk.wt (st:=m.st) (stn:=m.stn) h.st p (now:=now) (by omega) (by omega) (by omega) (key:=key) (by omega) g N m.ct m.sp m.an Aw m.bn m.ctn m.spn m.af false true m.aw
 refine ⟨{m with nm:=N,an:=cl S (fd S key) 0,af:=s,aw:=u,b:=g,now:=now,dn:=x,hp:=c,due:=d,hn:=y,ov:=false,ev:=Aw,en:=true},⟨key,now,r.defs,X,now,Aw⟩,?_,?_,rfl,rfl,rfl,rfl,x9,x10⟩
 ·rw [F];simp only [A5,AX,tI,B5,B4];rw [iT (by omega),K]
  rfl
 ·exact ⟨rk,so,h.st,h.ct,h.sp,h.spn,y4,h.bn,h.df,by show 0≤Ug.fd S key;omega,Oi (l:=S) (key:=key) (by omega),I,J,rfl,L,by show len c≤2;omega,rfl,fun j z=>(by have z:j<len Aw:=z;rw [Bw] at z;omega),fun _=>rfl,by show len Aw≤2;rw [Bw];omega⟩
end
end Ug
namespace Ug
open Go Go.AE
section
variable [Ai]
variable {S C T N n0 S' C' T' P Q v0 v0':D} {n:Nat} {m:MS} {r:RS}
theorem aX (hR:Rk S C T) {k:Key} (c:KOk S C k) {t x a b:D} (h:Cf S C k t x) (h':Cf S C k a b):Ar v0 S C T v0' S' C' T' P Q t x=Ar v0 S C T v0' S' C' T' P Q a b:=by
 rw [Vs (h0:=rfl) (h1:=rfl),Hc hR c h,Vs (h0:=rfl) (h1:=rfl) v0 S C T v0' S' C' T' P Q a b,Hc hR c h']
theorem WS (hR:Rk S C T) (b:Rk S' C' T') (hC:Ck S C S' C' P Q) {a:Int} (K:Cq v0 S C T v0' S' C' T' P Q=.row [.int 1,.int a,.int 0]) {k:Key} (g:KOk S C k) {t x:D} (h:Cf S C k t x) :
  (∃(c:Key) (f:D),KOk S' C' c∧Cf S' C' c (cl S' c.1 0) f∧Ar v0 S C T v0' S' C' T' P Q t x=.row [.int 1,cl S' c.1 0,f,.int 0])∨
  (∃e:Int,e≠0∧Ar v0 S C T v0' S' C' T' P Q t x=.row [.int 1,CX 0 0,Aw,.int e]):=by
 have V:=hU (v0:=v0) (v0':=v0') hR b hC g;rw [Vs (h0:=rfl) (h1:=rfl),K,Hc hR g h];simp only [A5,AX,tI,tB,B5,B4];rw [V];unfold cvD;cases q:cvK S C S' C' P Q k with
 |none=>
  right;refine ⟨cvE S C S' C' P Q k,?_,?_⟩
  ·unfold cvE;split<;>omega
  ·simp only [A5,AX,tI,tB,B5,B4];rw [iF (by unfold cvE;split<;>omega)]
 |some c=>
  left;have d:=YA hR b hC q;obtain ⟨f,p1,p2⟩:=GM (v0:=v0') b d;refine ⟨c,f,d,p2,?_⟩;simp only [A5,AX,tI,tB,B5,B4];rw [p1];simp only [A5,AX,tI,tB,B5,B4]
theorem Nc (l:IsL S) (h:Bf S) (hs:len S<1000) {x:D} (e:x=cond S.isNil (.row [.int 1,Aw,.bool true]) (cond (decide ((len S:Int)<1048576)) (.row [.int 1,ct Aq S,.bool false]) (.row []))):(sl x 0).toInt=1∧ni (sl x 1) ((sl x 2).toBool)=S:=by
 obtain ⟨b,rows,rfl⟩:=l;cases b with
 |true=>
  have a:rows=[]:=h rfl;subst a;rw [e];exact ⟨rfl,rfl⟩
 |false=>
  rw [e,show (D.slc false rows).isNil=false from rfl,E9,ifT (by omega)]
  exact ⟨rfl,rfl⟩
theorem V1 (l1:IsL S) (l2:IsL C) (l3:IsL T) (l4:IsL P) (l5:IsL Q) (n1:Bf S) (n2:Bf C) (n3:Bf T) (e:Bf P) (f:Bf Q) (h1:len S<1000) (h2:len C<1000) (h3:len T<1000) (h4:len P<1000) (h5:len Q<1000) :
  Wq N S C T P Q=.row [.int 1,N,S,C,T,P,Q]:=by
 have a1:=Nc l1 n1 h1 (Zy S);have a2:=Nc l2 n2 h2 (bf C);have a3:=Nc l3 n3 h3 (Zi T);rw [ow,ifT a1.1,ifT a2.1,ifT a3.1,a1.2,a2.2,a3.2];obtain ⟨c,a,rfl⟩:=l4;obtain ⟨d,b,rfl⟩:=l5;have z4:c=true→a=[]:=fun h=>e (by rw [h];rfl)
 have z5:d=true→b=[]:=fun h=>f (by rw [h];rfl)
 cases c<;>cases d
 ·rw [show (D.slc false a).isNil=false from rfl,show (D.slc false b).isNil=false from rfl,E9,E9,ifT (by omega),ifT (by omega)]
  rfl
 ·have:=z5 rfl;subst this;rw [show (D.slc false a).isNil=false from rfl,show (D.slc true []).isNil=true from rfl,E9,B4,ifT (by omega)]
  rfl
 ·have:=z4 rfl;subst this;rw [show (D.slc false b).isNil=false from rfl,show (D.slc true []).isNil=true from rfl,E9,B4,ifT (by omega)]
  rfl
 ·have:=z4 rfl;subst this;have:=z5 rfl;subst this;rfl
theorem Ja (h:Inv S C T n m r) (hn:n<900):∃(c l g i f:D) (d e k:Bool),
  Lh m.b (.bool m.bn) m.nm m.st (.bool m.stn) m.ct (.bool m.ctn) m.sp (.bool m.spn) m.an (.bool m.af) (.int m.aw) (.int m.now) m.due m.dn m.hp (.bool m.hn) (.bool m.ov) m.ev (.bool m.en)=.row [.int 1,m.st,m.ct,m.sp,m.nm,.bool m.stn,.bool m.ctn,.bool m.spn,m.an,.bool m.af,.int m.aw,.bool m.ov,c,.bool d,l,.bool e,.int m.now,g,i,.bool k,f]∧
  Inv S C T n {m with ev:=c,en:=d,b:=l,bn:=e,dn:=g,hp:=i,hn:=k,due:=f} r:=by
 have hl:=h.hl;have el:=h.el;have el':=h.el';have lb:=h.bk.lb;have c1:=h.rk.c1
 have A:∃(l:D) (e:Bool),Pw m.b (.bool m.bn)=.row [.int 1,l,.bool e]∧Bk l C r.vals∧(e=true→len C=0):=by
  rw [gG,bt];cases q:m.bn
  ·rw [cF rfl,ifT (p:=(len m.b:Int)<1048576) (by omega)]
   exact ⟨ct Aq m.b,false,rfl,⟨h.bk.lb,h.bk.lv,h.bk.wb,h.bk.wv,h.bk.nm,h.bk.lm,h.bk.vl⟩,fun z=>by cases z⟩
  ·have c0:=h.bn q;exact ⟨Aw,true,rfl,⟨by rw [c0];rfl,h.bk.lv,fun _ z=>(by cases z),h.bk.wv,fun j s=>by omega,fun j s=>by omega,fun j s=>by omega⟩,fun _=>c0⟩
 have E:∃(c:D) (d:Bool),O6 m.ev (.bool m.en)=.row [.int 1,c,.bool d]∧len c=len m.ev∧(∀j:Nat,j<len m.ev→cl c j 0=cl m.ev j 0∧cl c j 1=cl m.ev j 1)∧(d=true→len m.ev=0):=by
  rw [gy];cases q:m.en
  ·rw [cF rfl,ifT (p:=(len m.ev:Int)<1048576) (by omega)]
   exact ⟨ct Aq m.ev,false,rfl,rfl,fun j _=>⟨rfl,rfl⟩,fun z=>by cases z⟩
  ·have e0:=h.en q;exact ⟨Aw,true,rfl,by rw [e0];rfl,fun j s=>by omega,fun _=>e0⟩
 obtain ⟨l,e,u,v,w⟩:=A;obtain ⟨c,d,x,t,y,B⟩:=E;obtain ⟨o,F,G⟩:=h.o;obtain ⟨g,i,f,k,H,I,J⟩:=Vg (now:=m.now) F (by omega)
 refine ⟨c,l,g,i,f,d,e,k,?_,?_⟩
 ·rw [gj,u,H,x];simp only [A5,AX,tI,B5,B4]
 ·exact ⟨h.rk,h.so,h.st,h.ct,h.sp,h.spn,v,w,h.df,h.at0,h.an,h.af,h.aw,h.nt,⟨o,J,G⟩,by rw [I];exact hl,by rw [t];exact el,fun j s=>(by
   have a:=y j (by omega)
   have b:=h.ee j s;exact ⟨a.1.trans b.1,a.2.trans b.2⟩),fun z=>by rw [t];exact B z,el'⟩
end
end Ug
namespace Ug
open Go Go.AE
section
variable [Ai]
variable {S C T N n0 n1 n2 n3 c0 c1:D} {n:Nat} {m:MS} {r:RS}
def SL (m:MS) (n0 n1 n2 n3 c0 c1:D):D:=bJ m.b (.bool m.bn) m.nm m.st (.bool m.stn) m.ct (.bool m.ctn) m.sp (.bool m.spn) m.an (.bool m.af) (.int m.aw) (.int m.now) m.due m.dn m.hp (.bool m.hn) (.bool m.ov) m.ev (.bool m.en) n0 n1 n2 n3 c0 c1
theorem vH {a:Key→Bool} {qs:List Q} {j:Nat} {q:Q} (h:qs[j]?=some q):pA a qs j=a q.1:=by unfold pA;rw [h]
theorem gn (h:Inv S C T n m r) (a:Mc N S C T m) (hn:n<900):∃(x:D),Cf S C (Bb S C r) m.an x∧SL m n0 n1 n2 n3 c0 c1 =
  cond (decide ((sl (Cq N S C T n0 n1 n2 n3 c0 c1) 0).toInt=1)) (
   cond (decide ((sl (Cq N S C T n0 n1 n2 n3 c0 c1) 2).toInt=0)) (
    Ie (ad Aq (.row [m.an,x,Aw])) (.bool false) (.int (-1)) (.int 0) m.nm (.int (len m.st:Int)) (.bool m.stn) (.int (len m.ct:Int)) (.bool m.ctn) (.int (len m.sp:Int)) (.bool m.spn) m.an (.bool m.af) (.int m.aw) (.bool m.ov) m.ev (.bool m.en) m.b (.bool m.bn) m.st m.ct m.sp (.int m.now) m.dn m.hp (.bool m.hn) m.due n0 n1 n2 n3 c0 c1 N S C T) (
    .row [.int 1,sl (Cq N S C T n0 n1 n2 n3 c0 c1) 2,m.st,m.ct,m.sp])) (.row []):=by
  obtain ⟨L,c⟩:=Y7 h hn;have d:=MM h a.lS a.lC a.lT a.n1 a.n2 a.n3 a.b1 a.b2 a.b3 h.rk.s1;obtain ⟨x,e,f⟩:=Dj h m.nm m.st (.int (len m.st:Int)) m.ct (.int (len m.ct:Int)) m.sp (.int (len m.sp:Int)) m.due m.stn m.ctn m.spn m.af m.hn m.ov m.aw m.now m.dn m.hp m.ev m.ev;refine ⟨x,f,?_⟩;have e1:sl (D.row (.int 1::m.st::m.ct::m.sp::L)) 1=m.st:=by rw [AX,A5]
  have g:sl (D.row (.int 1::m.st::m.ct::m.sp::L)) 2=m.ct:=by rw [AX,AX,A5]
  have i:sl (D.row (.int 1::m.st::m.ct::m.sp::L)) 3=m.sp:=by rw [AX,AX,AX,A5]
  unfold SL;rw [oR (h0:=c) (h1:=rfl) (h2:=rfl),e1,g,i,d,e,a.nm];simp only [A5,AX,tI,B5,B4]
theorem xy (h:Inv S C T n m r) (b:Mc N S C T m) (hn:n<900) {a e:Int} (K:Cq N S C T n0 n1 n2 n3 c0 c1=.row [.int 1,.int a,.int e]) (c:e≠0):SL m n0 n1 n2 n3 c0 c1=.row [.int 1,.int e,m.st,m.ct,m.sp]:=by
 obtain ⟨x,d,E⟩:=gn (n0:=n0) (n1:=n1) (n2:=n2) (n3:=n3) (c0:=c0) (c1:=c1) h b hn;rw [E,K];simp only [A5,AX,tI,B5,B4];rw [iF c]
theorem ou (h:Inv S C T n m r) (v:Mc N S C T m) (hn:n<900) (hC:Cv N S C T n0 n1 n2 n3 c0 c1) :
  (∃e:Int,e≠0∧SL m n0 n1 n2 n3 c0 c1=.row [.int 1,.int e,m.st,m.ct,m.sp]∧(2000<(A6 S C T (Bb S C r)).length∨apB S C n2 c0 c1 (Bb S C r)=false))∨
  (∃(q:Q) (w:D),q∈A6 S C T (Bb S C r)∧apB S C n2 c0 c1 q.1=true∧Tr q.2 w∧SL m n0 n1 n2 n3 c0 c1=.row [.int 2,w,m.st,m.ct,m.sp]∧(apB S C n2 c0 c1 (Bb S C r)=true→q.2=[])∧(A6 S C T (Bb S C r)).length≤2000):=by
 have hR:=h.rk;have y:=hR.c1;have s1:=hR.s1;have t1:=hR.t1;have l8:=hC.l8;have l9:=hC.l9;have K:=(Qe (v0:=N) (v1:=S) (v2:=C) (v3:=T) (v4:=n0) (v5:=n1) (v6:=n2) (v7:=n3) (v8:=c0) (v9:=c1) hC.hs hC.hs7 (by omega) (by omega) (by omega) hC.ln1 hC.ln2 hC.ln3 (by omega) (by omega)).trans (Yh hC.r1 hC.r2 hC.l8 hC.p hC.l9 hC.q)
 obtain ⟨x,A,E⟩:=gn (n0:=n0) (n1:=n1) (n2:=n2) (n3:=n3) (c0:=c0) (c1:=c1) h v hn;rw [K] at E;simp only [A5,AX,tI,B5,B4] at E;have B:=LA h;have W:=Q4 (w8:=m.nm) (w9:=.int (len m.st:Int)) (b10:=m.stn) (w11:=.int (len m.ct:Int)) (b12:=m.ctn) (w13:=.int (len m.sp:Int)) (b14:=m.spn) (w15:=m.an) (b16:=m.af) (n17:=m.aw) (b18:=m.ov) (w19:=m.ev) (b20:=m.en) (w21:=m.b) (b22:=m.bn) (w23:=m.st) (w24:=m.ct) (w25:=m.sp) (n26:=m.now) (w27:=m.dn) (w28:=m.hp) (b29:=m.hn) (w30:=m.due) hR hC (f:=2001) (i:=0) (qs:=[(Bb S C r,[])]) (d:=ad Aq (.row [m.an,x,Aw])) (b:=false) (by omega) (by omega) (HI.one B) WOk.one (RL.one (r:=[m.an,x,Aw]) A) (RT.one (r:=[m.an,x,Aw]) (c:=2) Tr.nil) (by show 1≤_;omega)
 rw [show Ch S C T 2001 [(Bb S C r,[])] 0=A6 S C T (Bb S C r) from rfl] at W
 rcases W with ⟨o,s⟩|⟨o,t,F,o1,o2,o3,s⟩
 ·exact .inl ⟨7,by omega,E.trans s,.inl o⟩
 have E:=E.trans s;have hl:len t=(A6 S C T (Bb S C r)).length:=o2.l;rw [iu (h0:=rfl),ifF (show ¬(((A6 S C T (Bb S C r)).length:Nat):Int)<len t by omega),ifF (show ¬2000<(len t:Int) by omega)] at E
 have g:=eN (S:=S) (C:=C) (T:=T) (k:=Bb S C r)
 have G:0<(A6 S C T (Bb S C r)).length:=by
  rcases Nat.eq_zero_or_pos (A6 S C T (Bb S C r)).length with z|z
  ·rw [E4 (by omega)] at g;cases g
  ·exact z
 have a0:pA (apB S C n2 c0 c1) (A6 S C T (Bb S C r)) 0=apB S C n2 c0 c1 (Bb S C r):=by
  unfold pA;rw [g]
 have lt:=Eo (p:=pA (apB S C n2 c0 c1) (A6 S C T (Bb S C r))) (k:=(A6 S C T (Bb S C r)).length) (i:=0);by_cases z:fdG (pA (apB S C n2 c0 c1) (A6 S C T (Bb S C r))) (A6 S C T (Bb S C r)).length 0<0
 ·rw [ifT z] at E;refine .inl ⟨9,by omega,E,.inr ?_⟩
  cases u:apB S C n2 c0 c1 (Bb S C r) with
  |false=>rfl
  |true=>
   have:=Iu (p:=pA (apB S C n2 c0 c1) (A6 S C T (Bb S C r))) (k:=(A6 S C T (Bb S C r)).length) (i:=0) (j:=0) (C1 _) (by omega) (a0.trans u)
   omega
 ·rw [ifF (by omega),ifT (by omega)] at E
  have hi:(fdG (pA (apB S C n2 c0 c1) (A6 S C T (Bb S C r))) (A6 S C T (Bb S C r)).length 0).toNat<(A6 S C T (Bb S C r)).length:=by omega
  obtain ⟨q,a⟩:∃q,(A6 S C T (Bb S C r))[(fdG (pA (apB S C n2 c0 c1) (A6 S C T (Bb S C r))) (A6 S C T (Bb S C r)).length 0).toNat]?=some q:=⟨_,E1 hi⟩
  have W:=o3.c _ _ a;rw [show (((fdG (pA (apB S C n2 c0 c1) (A6 S C T (Bb S C r))) (A6 S C T (Bb S C r)).length 0).toNat:Nat):Int)=fdG (pA (apB S C n2 c0 c1) (A6 S C T (Bb S C r))) (A6 S C T (Bb S C r)).length 0 by omega] at W
  refine .inr ⟨q,_,Nn a,?_,W,E,fun u=>?_,o⟩
  ·have:=IF (p:=pA (apB S C n2 c0 c1) (A6 S C T (Bb S C r))) (k:=(A6 S C T (Bb S C r)).length) (i:=0) (by omega)
   rwa [vH a] at this
  ·have:=Iu (p:=pA (apB S C n2 c0 c1) (A6 S C T (Bb S C r))) (k:=(A6 S C T (Bb S C r)).length) (i:=0) (j:=0) (C1 _) (by omega) (a0.trans u)
   have e0:(fdG (pA (apB S C n2 c0 c1) (A6 S C T (Bb S C r))) (A6 S C T (Bb S C r)).length 0).toNat=0:=by omega
   rw [e0,g] at a;injection a with a
   rw [←a]
end
end Ug
namespace Ug
open Go Go.AE
section
variable [Ai]
variable {S C T A X2 X3 X4 X5 X6:D} {n:Nat} {m:MS} {r:RS}
theorem My (h:Inv S C T n m r) {ev b dn hp due:D} {en bn hn:Bool} (o:Inv S C T n {m with ev:=ev,en:=en,b:=b,bn:=bn,dn:=dn,hp:=hp,hn:=hn,due:=due} r) {i:Nat} (hi:i<1000) (a:Int) :
  Nb A (.int (i:Nat)) (.int a) (.int a) X2 X3 X4 X5 X6 m.nm m.st (.bool m.stn) m.ct (.bool m.ctn) m.sp (.bool m.spn) m.an (.bool m.af) (.int m.aw) (.bool m.ov) m.ev (.bool m.en) m.nm m.st (.bool m.stn) m.ct (.bool m.ctn) m.sp (.bool m.spn) m.an (.bool m.af) (.int m.aw) (.bool m.ov) ev (.bool en) m.nm (.int (len m.st:Int)) (.bool m.stn) (.int (len m.ct:Int)) (.bool m.ctn) (.int (len m.sp:Int)) (.bool m.spn) m.an (.bool m.af) (.int m.aw) (.bool m.ov) m.ev (.bool m.en) m.b (.bool m.bn) (.int m.now) m.dn m.hp (.bool m.hn) b (.bool bn) (.int m.now) dn hp (.bool hn) m.b (.bool m.bn) (.int m.now) m.dn m.hp (.bool m.hn) m.due due m.due=Sa A (.int (i+1:Nat)) X2 X3 X4 X5 X6 m.nm m.st (.bool m.stn) m.ct (.bool m.ctn) m.sp (.bool m.spn) m.an (.bool m.af) (.int m.aw) (.bool m.ov) m.ev (.bool m.en) m.nm (.int (len m.st:Int)) (.bool m.stn) (.int (len m.ct:Int)) (.bool m.ctn) (.int (len m.sp:Int)) (.bool m.spn) m.an (.bool m.af) (.int m.aw) (.bool m.ov) m.ev (.bool m.en) m.b (.bool m.bn) (.int m.now) m.dn m.hp (.bool m.hn) m.b (.bool m.bn) m.st m.ct m.sp (.int m.now) m.dn m.hp (.bool m.hn) m.due m.due:=by
 obtain ⟨x,c,d⟩:=Dj h m.nm m.st (.int (len m.st:Int)) m.ct (.int (len m.ct:Int)) m.sp (.int (len m.sp:Int)) m.due m.stn m.ctn m.spn m.af m.hn m.ov m.aw m.now m.dn m.hp m.ev m.ev;obtain ⟨y,p1,p2⟩:=Dj o m.nm m.st (.int (len m.st:Int)) m.ct (.int (len m.ct:Int)) m.sp (.int (len m.sp:Int)) due m.stn m.ctn m.spn m.af hn m.ov m.aw m.now dn hp ev ev;dsimp only at p1 p2;have k:=LA h;have Sm:=ki h.rk k k p2 d;rw [rU (h0:=rfl) (h1:=rfl) (h2:=rfl) (h3:=rfl) (h4:=rfl) (h5:=rfl),ifT rfl,il,il,Sx,Sx,p1,c];simp only [A5,AX,tI,B5,B4,BS];rw [Sm];simp only [A5,AX,tB,tI,B5,B4,AR (show i<4611686018427387904 by omega)]
theorem ai (hA:∀i:Nat,i<len A→(∃x,cl A i 1=.int x)∧(∃x,cl A i 2=.int x)) (hl:len A≤20):∀(k i:Nat) (m:MS) (r:RS),i+k=len A→Inv S C T (i+2) m r→
  Sa A (.int (i:Nat)) X2 X3 X4 X5 X6 m.nm m.st (.bool m.stn) m.ct (.bool m.ctn) m.sp (.bool m.spn) m.an (.bool m.af) (.int m.aw) (.bool m.ov) m.ev (.bool m.en) m.nm (.int (len m.st:Int)) (.bool m.stn) (.int (len m.ct:Int)) (.bool m.ctn) (.int (len m.sp:Int)) (.bool m.spn) m.an (.bool m.af) (.int m.aw) (.bool m.ov) m.ev (.bool m.en) m.b (.bool m.bn) (.int m.now) m.dn m.hp (.bool m.hn) m.b (.bool m.bn) m.st m.ct m.sp (.int m.now) m.dn m.hp (.bool m.hn) m.due m.due=.row [.int 1,.bool true]:=by
 intro k
 induction k with
 |zero=>
  intro i m r hi h;rw [g8 (h0:=rfl) (h1:=rfl) (h2:=rfl) (h3:=rfl) (h4:=rfl) (h5:=rfl) (h6:=rfl) (h7:=rfl) (h8:=rfl),ifF (by omega)]
  exact knT
 |succ k d=>
  intro i m r hi h;obtain ⟨⟨t,J⟩,⟨s,hs⟩⟩:=hA i (by omega)
  obtain ⟨K,L,M,N,O,P,b1,p,Q,R,q,U,r1,w1,e1,e,f,_⟩:=T2 h (by omega) t (cl A i 3) (cl A i 4)
  obtain ⟨V,W,X,Y,Z,aa,b2,u,ab,ac,v,ad,r2,w,c,g,_⟩:=gx h (by omega) t s
  obtain ⟨ae,y,ag,ah,B,aj,j,l3,b3,e3,l,o,_⟩:=jq h (by omega) t
  rw [←J] at e c l;rw [←hs] at c;obtain ⟨ak,b4,al,am,E,ao,ap,aq,F,K2⟩:=Ja f (by omega)
  obtain ⟨ar,b5,as,au,G,av,ax,ay,H,K4⟩:=Ja g (by omega)
  obtain ⟨az,b6,a0,a1,I,a2,a3,a4,K5,K6⟩:=Ja o (by omega)
  dsimp only at F H K5;rw [g8 (h0:=e) (h1:=c) (h2:=l) (h3:=F) (h4:=H) (h5:=e) (h6:=c) (h7:=K5) (h8:=l),ifT (by omega),ifF (by omega)]
  by_cases c0:(cl A i 0).toInt=0
  ·rw [ifT c0,iT tI.symm,iT tI.symm,iT tI.symm];simp only [A5,AX,tI,B5,B4];exact (My o K6 (by omega) e3).trans (d (i+1) _ _ (by omega) (o.mono (by omega)))
  rw [ifF c0];by_cases c4:(cl A i 0).toInt=4
  ·rw [ifT c4,iT tI.symm,iT tI.symm,iT tI.symm];simp only [A5,AX,tI,B5,B4];have z:=(My (X2:=X2) (X3:=X3) (X4:=X4) (X5:=X5) (X6:=X6) (A:=A) f K2 (i:=i) (by omega) e1).trans (d (i+1) _ _ (by omega) (f.mono (by omega)))
   by_cases a:e1=0
   ·rw [iT a];rw [a] at z ⊢;exact z
   ·rw [iF a];exact z
  ·rw [ifF c4,iT tI.symm,iT tI.symm,iT tI.symm];simp only [A5,AX,tI,B5,B4];have z:=(My (X2:=X2) (X3:=X3) (X4:=X4) (X5:=X5) (X6:=X6) (A:=A) g K4 (i:=i) (by omega) w).trans (d (i+1) _ _ (by omega) (g.mono (by omega)))
   by_cases a:w=0
   ·rw [iT a];rw [a] at z ⊢;exact z
   ·rw [iF a];exact z
end
end Ug
namespace Ug
open Go Go.AE
section
variable [Ai]
variable {S C T N:D} {n:Nat} {m:MS} {r:RS}
theorem UI (h:Bf S) (hs:len S<1000) {x:D} (e:x=cond S.isNil (.row [.int 1,Aw,.bool true]) (cond (decide ((len S:Int)<1048576)) (.row [.int 1,ct Aq S,.bool false]) (.row []))):∃l,x=.row [.int 1,l,.bool S.isNil]∧l.rows=S.rows∧(S.isNil=true→S.rows=[]):=by
 rw [e];cases q:S.isNil with
 |true=>exact ⟨Aw,rfl,(h q).symm,fun _=>h q⟩
 |false=>
  rw [E9,ifT (by omega)]
  exact ⟨ct Aq S,rfl,rfl,fun z=>by cases z⟩
theorem cr (rk:Rk S C T) (so:PI S) (n1:Bf S) (n2:Bf C) (n3:Bf T) (hs:GU N S C T=0):∃(m:MS) (r:RS),
  Ci N S C T=.row [.int 1,N,m.st,.bool m.stn,m.ct,.bool m.ctn,m.sp,.bool m.spn,m.an,.bool m.af,.int m.aw,Aw,m.b,.bool m.bn,m.dn,m.hp,.bool m.hn,m.due]∧
  Inv S C T 1 m r∧
  m.nm=N∧m.now=0∧m.ov=false∧m.ev=Aw∧m.en=true∧r.ent=0∧r.time=0∧r.evs=Aw∧m.stn=S.isNil∧m.ctn=C.isNil∧m.spn=T.isNil∧Bb S C r=Mw:=by
 have s0:=rk.s0;have s1:=rk.s1;have c1:=rk.c1;have t1:=rk.t1;obtain ⟨F,w⟩:=JZ (v1:=S) (v2:=C) rk.tI (by omega) s1 (by omega) N
 rw [hs] at w;obtain ⟨a12,i,f,z12⟩:=UI n1 (by omega) (Zy S)
 obtain ⟨a13,k,l,z13⟩:=UI n2 (by omega) (bf C)
 obtain ⟨a14,o,p,z14⟩:=UI n3 (by omega) (Zi T)
 have q:=UN rk;have e:fd S (cl S (0:Nat) 0)=(0:Nat):=rk.sid 0 s0;have e:fd S (cl S 0 0)=0:=e;have A:CK Aq (.bool true) Aw true none:=⟨rfl,HJ,fun j a=>by rw [Bw] at a;omega,fun _=>rfl,fun d c=>nomatch c⟩
 obtain ⟨s,t,u,g,h,v,e1,x,y,B,E⟩:=Jv so s1 rk.wt (st:=a12) (stn:=S.isNil) f A (now:=0) (by rw [Bw];omega) (by omega) (by omega) (key:=cl S 0 0) (by omega) (bL C (len C)) N a13 a14 (CX 0 0) Aw (decide (len C=0)) C.isNil T.isNil false false true 0
 rw [e] at e1 x y;rw [Bw] at B;have bk:Bk (bL C (len C)) C (zL (len C)):=⟨II _,Kj _,VD _,V3 _,fun j a=>(Hd _ j a).1,fun j a=>(Hd _ j a).2.1,fun j a=>⟨0,(Hd _ j a).2.2,Q5 _ j a,by omega,by have:=rk.lim j a;omega⟩⟩
 have df:Df (dL C (len C)) C:=⟨QN _,fun j a=>(Sb _ j a).1,fun j a=>(Sb _ j a).2⟩
 refine ⟨⟨bL C (len C),decide (len C=0),N,a12,S.isNil,a13,C.isNil,a14,T.isNil,cl S 0 0,s,t,0,h,u,g,v,false,Aw,true⟩,⟨cl S 0 0,0,dL C (len C),zL (len C),0,Aw⟩,?_,?_,rfl,rfl,rfl,rfl,rfl,rfl,rfl,rfl,rfl,rfl,rfl,?_⟩
 ·rw [YU,w,q,i,k,o];simp only [A5,AX,tI,tB,B5,B4];rw [iT (by omega)]
  rw [y];rfl
 ·exact ⟨rk,so,f,l,p,z14,bk,fun c=>dT c,df,by show 0≤fd S (cl S 0 0);omega,BS,by show cl S (fd S (cl S 0 0)) 1=_;rw [e];exact e1,by show cl S (fd S (cl S 0 0)) 2=_;rw [e];exact x,rfl,E,by show len g≤1;omega,rfl,fun j a=>(by have a:j<len Aw:=a;rw [Bw] at a;omega),fun _=>rfl,by show len Aw≤1;rw [Bw];omega⟩
 ·have z:∀j:Nat,kv (zL (len C)) j=0:=by
   intro j;unfold kv;rw [Kj];by_cases c:j<len C
   ·rw [if_pos c,Q5 _ j c];rfl
   ·rw [if_neg c]
  show (fd S (cl S 0 0),kv (zL (len C)) 0,kv (zL (len C)) 1,kv (zL (len C)) 2,kv (zL (len C)) 3)=Mw;rw [e,z,z,z,z];rfl
def lad (e G f K b a g h c d Z:D):D:=
  cond ((sl e 0).toInt=1) (
 cond ((sl G 0).toInt=1) (
 cond ((sl f 0).toInt=1) (
 cond ((sl K 0).toInt=1) (
 cond ((sl K 2).toInt=0) (
 cond ((sl b 0).toInt=1) (
 cond (7<(sl b 1).toInt) (
 Dy) (
 cond ((sl a 0).toInt=1) (
 cond ((sl a 8).toInt=0) (
 cond ((sl a 7).toBool) (
 cond ((sl g 0).toInt=1) (
 cond ((sl h 0).toInt=1) (
 cond ((sl c 0).toInt=1) (
 cond ((sl c 3).toInt=0) (
 cond ((sl d 0).toInt=1) (
 Dy) (
 cond ((sl d 0).toInt=2) (
 Z) (
 .row []))) (
 Dy)) (
 .row [])) (
 .row [])) (
 .row [])) (
 Dy)) (
 Dy)) (
 .row []))) (
 .row [])) (
 Dy)) (
 .row [])) (
 .row [])) (
 .row [])) (
 .row [])
theorem Jr:Dy=.row [.int 1,.bool true]:=pd.trans knT
theorem kW {e G f K c a g h b i Z:D} (j:(sl e 0).toInt=1) (k:(sl G 0).toInt=1) (l:(sl f 0).toInt=1) (hK:(sl K 0).toInt=1) (o:(sl c 0).toInt=1) (p:(sl g 0).toInt=1) (q:(sl h 0).toInt=1)
  (s:(sl K 2).toInt=0→(sl a 0).toInt=1) (t:(sl b 0).toInt=1) (d:(sl K 2).toInt=0→(sl b 3).toInt=0→(sl i 0).toInt=2)
  (u:(sl K 2).toInt=0→(sl a 8).toInt=0→(sl a 7).toBool=true→(sl b 3).toInt=0→Z=.row [.int 1,.bool true]):lad e G f K c a g h b i Z=.row [.int 1,.bool true]:=by
 unfold lad;rw [ifT j,ifT k,ifT l,ifT hK,ifT o,ifT p,ifT q,ifT t];by_cases c1:(sl K 2).toInt=0;rotate_left
 ·rw [ifF c1];exact Jr
 rw [ifT c1];by_cases c2:7<(sl c 1).toInt
 ·rw [ifT c2];exact Jr
 rw [ifF c2,ifT (s c1)];by_cases c3:(sl a 8).toInt=0;rotate_left
 ·rw [ifF c3];exact Jr
 rw [ifT c3];cases c4:(sl a 7).toBool
 ·exact Jr
 rw [B4];by_cases c5:(sl b 3).toInt=0;rotate_left
 ·rw [ifF c5];exact Jr
 have d:=d c1 c5;rw [ifT c5,ifF (by omega),ifT d]
 exact u c1 c3 c4 c5
end
end Ug
namespace Ug
open Go Go.AE
section
variable [Ai]
variable {S C T N n0 n1 n2 n3 c0 c1 A X2 X3 X4 X5 X6 way t x:D} {n:Nat} {m:MS} {r:RS}
structure Ctx (T n1 n2 n3 c0 c1 A:D):Prop where
 tI:CJ T
 tI7:CJ n3
 hp:Hq c1
 so:PI n1
 hC:∀i:Nat,i<len n2→∃x,cl n2 i 1=.int x
 m1:Bf n1
 m2:Bf n2
 m3:Bf n3
 m4:Bf c0
 m5:Bf c1
 i1:IsL n1
 i2:IsL n2
 i3:IsL n3
 i4:IsL c0
 i5:IsL c1
 l1:len n1≤8
 l2:len n2<1000
 l3:len n3≤20
 l4:len c0≤10
 l5:len c1≤10
 hA:∀i:Nat,i<len A→(∃x,cl A i 1=.int x)∧(∃x,cl A i 2=.int x)
 lA:len A≤20
theorem fU (hA:∀i:Nat,i<len A→(∃x,cl A i 1=.int x)∧(∃x,cl A i 2=.int x)) (hl:len A≤20) (h:Inv S C T 2 m r) (e1:m.ov=false) (a:m.ev=Aw) (c:m.en=true) (d:len way=0)
  (E:AG n0 n1 n2 n3 t x (.int 7)=.row [.int 2,m.nm,m.st,.bool m.stn,m.ct,.bool m.ctn,m.sp,.bool m.spn,m.an,.bool m.af,.int m.aw,Aw,m.b,.bool m.bn,.int m.now,m.dn,m.hp,.bool m.hn,m.due]):ON A way (.int 0) (.int 0) n0 n1 n2 n3 c0 c1 t x X2 X3 X4 X5 X6 m.nm m.st (.bool m.stn) m.ct (.bool m.ctn) m.sp (.bool m.spn) m.an (.bool m.af) (.int m.aw) Aw m.b (.bool m.bn) (.int m.now) m.dn m.hp (.bool m.hn) m.due=.row [.int 1,.bool true]:=by
 have z:=ai (X2:=X2) (X3:=X3) (X4:=X4) (X5:=X5) (X6:=X6) hA hl (len A) 0 m r (by omega) h
 rw [e1,a,c] at z;rw [nJ,E];simp only [A5,AX,tI,B5,B4];rw [iF (by omega),iT (by omega)]
 exact z
theorem Wt (c:Ctx T n1 n2 n3 c0 c1 A) (h:Inv S C T n m r) (hr:(DQ S C T).length≤2000→Bb S C r∈DQ S C T) {f:Int} {b j:D} (v:Cf S C (Bb S C r) m.an b) (O:Cf S C (Bb S C r) m.an j)
  (y:∀a:Int,Cq N S C T n0 n1 n2 n3 c0 c1=.row [.int 1,.int a,.int 0]→apB S C n2 c0 c1 (Bb S C r)=true→(DQ S C T).length≤2000→f=0∧len way=0) :
  lad (.row [.int 1,m.an,j]) (Ar N S C T n0 n1 n2 n3 c0 c1 m.an j) (.row [.int 1,N,S,C,T]) (Cq N S C T n0 n1 n2 n3 c0 c1) (.row [.int 1,.int m.now]) (Ey N S C T n0 n1 n2 n3 c0 c1) (.row [.int 1,n0,n1,n2,n3,c0,c1]) (.row [.int 1,m.an,b]) (Ar N S C T n0 n1 n2 n3 c0 c1 m.an b) (AG n0 n1 n2 n3 (sl (Ar N S C T n0 n1 n2 n3 c0 c1 m.an b) 1) (sl (Ar N S C T n0 n1 n2 n3 c0 c1 m.an b) 2) (.int 7)) (ON A way (.int f) (sl (Ar N S C T n0 n1 n2 n3 c0 c1 m.an j) 3) n0 n1 n2 n3 c0 c1 (sl (Ar N S C T n0 n1 n2 n3 c0 c1 m.an j) 1) (sl (Ar N S C T n0 n1 n2 n3 c0 c1 m.an j) 2) m.an b (sl (Ar N S C T n0 n1 n2 n3 c0 c1 m.an b) 1) (sl (Ar N S C T n0 n1 n2 n3 c0 c1 m.an b) 2) n0 (sl (AG n0 n1 n2 n3 (sl (Ar N S C T n0 n1 n2 n3 c0 c1 m.an b) 1) (sl (Ar N S C T n0 n1 n2 n3 c0 c1 m.an b) 2) (.int 7)) 1) (sl (AG n0 n1 n2 n3 (sl (Ar N S C T n0 n1 n2 n3 c0 c1 m.an b) 1) (sl (Ar N S C T n0 n1 n2 n3 c0 c1 m.an b) 2) (.int 7)) 2) (sl (AG n0 n1 n2 n3 (sl (Ar N S C T n0 n1 n2 n3 c0 c1 m.an b) 1) (sl (Ar N S C T n0 n1 n2 n3 c0 c1 m.an b) 2) (.int 7)) 3) (sl (AG n0 n1 n2 n3 (sl (Ar N S C T n0 n1 n2 n3 c0 c1 m.an b) 1) (sl (Ar N S C T n0 n1 n2 n3 c0 c1 m.an b) 2) (.int 7)) 4) (sl (AG n0 n1 n2 n3 (sl (Ar N S C T n0 n1 n2 n3 c0 c1 m.an b) 1) (sl (Ar N S C T n0 n1 n2 n3 c0 c1 m.an b) 2) (.int 7)) 5) (sl (AG n0 n1 n2 n3 (sl (Ar N S C T n0 n1 n2 n3 c0 c1 m.an b) 1) (sl (Ar N S C T n0 n1 n2 n3 c0 c1 m.an b) 2) (.int 7)) 6) (sl (AG n0 n1 n2 n3 (sl (Ar N S C T n0 n1 n2 n3 c0 c1 m.an b) 1) (sl (Ar N S C T n0 n1 n2 n3 c0 c1 m.an b) 2) (.int 7)) 7) (sl (AG n0 n1 n2 n3 (sl (Ar N S C T n0 n1 n2 n3 c0 c1 m.an b) 1) (sl (Ar N S C T n0 n1 n2 n3 c0 c1 m.an b) 2) (.int 7)) 8) (sl (AG n0 n1 n2 n3 (sl (Ar N S C T n0 n1 n2 n3 c0 c1 m.an b) 1) (sl (Ar N S C T n0 n1 n2 n3 c0 c1 m.an b) 2) (.int 7)) 9) (sl (AG n0 n1 n2 n3 (sl (Ar N S C T n0 n1 n2 n3 c0 c1 m.an b) 1) (sl (Ar N S C T n0 n1 n2 n3 c0 c1 m.an b) 2) (.int 7)) 10) (sl (AG n0 n1 n2 n3 (sl (Ar N S C T n0 n1 n2 n3 c0 c1 m.an b) 1) (sl (Ar N S C T n0 n1 n2 n3 c0 c1 m.an b) 2) (.int 7)) 11) (sl (AG n0 n1 n2 n3 (sl (Ar N S C T n0 n1 n2 n3 c0 c1 m.an b) 1) (sl (Ar N S C T n0 n1 n2 n3 c0 c1 m.an b) 2) (.int 7)) 12) (sl (AG n0 n1 n2 n3 (sl (Ar N S C T n0 n1 n2 n3 c0 c1 m.an b) 1) (sl (Ar N S C T n0 n1 n2 n3 c0 c1 m.an b) 2) (.int 7)) 13) (sl (AG n0 n1 n2 n3 (sl (Ar N S C T n0 n1 n2 n3 c0 c1 m.an b) 1) (sl (Ar N S C T n0 n1 n2 n3 c0 c1 m.an b) 2) (.int 7)) 14) (sl (AG n0 n1 n2 n3 (sl (Ar N S C T n0 n1 n2 n3 c0 c1 m.an b) 1) (sl (Ar N S C T n0 n1 n2 n3 c0 c1 m.an b) 2) (.int 7)) 15) (sl (AG n0 n1 n2 n3 (sl (Ar N S C T n0 n1 n2 n3 c0 c1 m.an b) 1) (sl (Ar N S C T n0 n1 n2 n3 c0 c1 m.an b) 2) (.int 7)) 16) (sl (AG n0 n1 n2 n3 (sl (Ar N S C T n0 n1 n2 n3 c0 c1 m.an b) 1) (sl (Ar N S C T n0 n1 n2 n3 c0 c1 m.an b) 2) (.int 7)) 17) (sl (AG n0 n1 n2 n3 (sl (Ar N S C T n0 n1 n2 n3 c0 c1 m.an b) 1) (sl (Ar N S C T n0 n1 n2 n3 c0 c1 m.an b) 2) (.int 7)) 18))=.row [.int 1,.bool true]:=by
 have hR:=h.rk;have hc:=hR.c1;have s1:=hR.s1;have t1:=hR.t1;have l1:=c.l1;have l2:=c.l2;have l3:=c.l3;have l4:=c.l4;have l5:=c.l5;have B:=LA h;obtain ⟨a,e,I,P⟩:=J2 N S C T n0 n1 n2 n3 c0 c1;have K:=(Qe (v0:=N) (v1:=S) (v2:=C) (v3:=T) (v4:=n0) (v5:=n1) (v6:=n2) (v7:=n3) (v8:=c0) (v9:=c1) c.tI c.tI7 (by omega) (by omega) (by omega) (by omega) (by omega) (by omega) (by omega) (by omega)).trans I
 have Q:Ar N S C T n0 n1 n2 n3 c0 c1 m.an j=Ar N S C T n0 n1 n2 n3 c0 c1 m.an b:=aX hR B O v;rw [Q];obtain ⟨Ss,L,g,J,_,_⟩:=Si (v0:=N) (v1:=S) (v2:=C) (v3:=T) (v4:=n0) (v5:=n1) (v6:=n2) (v7:=n3) (v8:=c0) (v9:=c1) (aB:=m.an) (aA:=b) c.tI c.tI7 c.hp v.num (by omega) (by omega) (by omega) (by omega) (by omega) (by omega) (by omega) (by omega)
 have k:(sl (Cq N S C T n0 n1 n2 n3 c0 c1) 2).toInt=e:=by rw [K];rfl
 have rest:e=0→(sl (Ey N S C T n0 n1 n2 n3 c0 c1) 0).toInt=1∧((sl (Ar N S C T n0 n1 n2 n3 c0 c1 m.an b) 3).toInt=0→(sl (AG n0 n1 n2 n3 (sl (Ar N S C T n0 n1 n2 n3 c0 c1 m.an b) 1) (sl (Ar N S C T n0 n1 n2 n3 c0 c1 m.an b) 2) (.int 7)) 0).toInt=2)∧
   ((sl (Ey N S C T n0 n1 n2 n3 c0 c1) 8).toInt=0→(sl (Ey N S C T n0 n1 n2 n3 c0 c1) 7).toBool=true→(sl (Ar N S C T n0 n1 n2 n3 c0 c1 m.an b) 3).toInt=0→ON A way (.int f) (sl (Ar N S C T n0 n1 n2 n3 c0 c1 m.an b) 3) n0 n1 n2 n3 c0 c1 (sl (Ar N S C T n0 n1 n2 n3 c0 c1 m.an b) 1) (sl (Ar N S C T n0 n1 n2 n3 c0 c1 m.an b) 2) m.an b (sl (Ar N S C T n0 n1 n2 n3 c0 c1 m.an b) 1) (sl (Ar N S C T n0 n1 n2 n3 c0 c1 m.an b) 2) n0 (sl (AG n0 n1 n2 n3 (sl (Ar N S C T n0 n1 n2 n3 c0 c1 m.an b) 1) (sl (Ar N S C T n0 n1 n2 n3 c0 c1 m.an b) 2) (.int 7)) 1) (sl (AG n0 n1 n2 n3 (sl (Ar N S C T n0 n1 n2 n3 c0 c1 m.an b) 1) (sl (Ar N S C T n0 n1 n2 n3 c0 c1 m.an b) 2) (.int 7)) 2) (sl (AG n0 n1 n2 n3 (sl (Ar N S C T n0 n1 n2 n3 c0 c1 m.an b) 1) (sl (Ar N S C T n0 n1 n2 n3 c0 c1 m.an b) 2) (.int 7)) 3) (sl (AG n0 n1 n2 n3 (sl (Ar N S C T n0 n1 n2 n3 c0 c1 m.an b) 1) (sl (Ar N S C T n0 n1 n2 n3 c0 c1 m.an b) 2) (.int 7)) 4) (sl (AG n0 n1 n2 n3 (sl (Ar N S C T n0 n1 n2 n3 c0 c1 m.an b) 1) (sl (Ar N S C T n0 n1 n2 n3 c0 c1 m.an b) 2) (.int 7)) 5) (sl (AG n0 n1 n2 n3 (sl (Ar N S C T n0 n1 n2 n3 c0 c1 m.an b) 1) (sl (Ar N S C T n0 n1 n2 n3 c0 c1 m.an b) 2) (.int 7)) 6) (sl (AG n0 n1 n2 n3 (sl (Ar N S C T n0 n1 n2 n3 c0 c1 m.an b) 1) (sl (Ar N S C T n0 n1 n2 n3 c0 c1 m.an b) 2) (.int 7)) 7) (sl (AG n0 n1 n2 n3 (sl (Ar N S C T n0 n1 n2 n3 c0 c1 m.an b) 1) (sl (Ar N S C T n0 n1 n2 n3 c0 c1 m.an b) 2) (.int 7)) 8) (sl (AG n0 n1 n2 n3 (sl (Ar N S C T n0 n1 n2 n3 c0 c1 m.an b) 1) (sl (Ar N S C T n0 n1 n2 n3 c0 c1 m.an b) 2) (.int 7)) 9) (sl (AG n0 n1 n2 n3 (sl (Ar N S C T n0 n1 n2 n3 c0 c1 m.an b) 1) (sl (Ar N S C T n0 n1 n2 n3 c0 c1 m.an b) 2) (.int 7)) 10) (sl (AG n0 n1 n2 n3 (sl (Ar N S C T n0 n1 n2 n3 c0 c1 m.an b) 1) (sl (Ar N S C T n0 n1 n2 n3 c0 c1 m.an b) 2) (.int 7)) 11) (sl (AG n0 n1 n2 n3 (sl (Ar N S C T n0 n1 n2 n3 c0 c1 m.an b) 1) (sl (Ar N S C T n0 n1 n2 n3 c0 c1 m.an b) 2) (.int 7)) 12) (sl (AG n0 n1 n2 n3 (sl (Ar N S C T n0 n1 n2 n3 c0 c1 m.an b) 1) (sl (Ar N S C T n0 n1 n2 n3 c0 c1 m.an b) 2) (.int 7)) 13) (sl (AG n0 n1 n2 n3 (sl (Ar N S C T n0 n1 n2 n3 c0 c1 m.an b) 1) (sl (Ar N S C T n0 n1 n2 n3 c0 c1 m.an b) 2) (.int 7)) 14) (sl (AG n0 n1 n2 n3 (sl (Ar N S C T n0 n1 n2 n3 c0 c1 m.an b) 1) (sl (Ar N S C T n0 n1 n2 n3 c0 c1 m.an b) 2) (.int 7)) 15) (sl (AG n0 n1 n2 n3 (sl (Ar N S C T n0 n1 n2 n3 c0 c1 m.an b) 1) (sl (Ar N S C T n0 n1 n2 n3 c0 c1 m.an b) 2) (.int 7)) 16) (sl (AG n0 n1 n2 n3 (sl (Ar N S C T n0 n1 n2 n3 c0 c1 m.an b) 1) (sl (Ar N S C T n0 n1 n2 n3 c0 c1 m.an b) 2) (.int 7)) 17) (sl (AG n0 n1 n2 n3 (sl (Ar N S C T n0 n1 n2 n3 c0 c1 m.an b) 1) (sl (Ar N S C T n0 n1 n2 n3 c0 c1 m.an b) 2) (.int 7)) 18)=.row [.int 1,.bool true]):=by
  intro e0;obtain ⟨r1,r2,l8,p,l9,q⟩:=P e0;subst e0;obtain ⟨_,_,M⟩:=jt (by omega) (by omega) c.hp I
  have l:Rk n1 n2 n3:=Zn r2 c.hC c.tI7 l1 l3;have hC:Cv N S C T n0 n1 n2 n3 c0 c1:=⟨c.tI,c.tI7,c.hp,by omega,by omega,by omega,r1,r2,l8,p,l9,q⟩
  have s:GU n0 n1 n2 n3=0:=hZ (by rw [Hw];exact r2)
  have i:(sl (Ey N S C T n0 n1 n2 n3 c0 c1) 0).toInt=1∧((sl (Ey N S C T n0 n1 n2 n3 c0 c1) 8).toInt=0→(DQ S C T).length≤2000):=by
   rcases j6 hR l M K with ⟨_,E⟩|⟨R,E⟩
   ·rw [E];refine ⟨rfl,fun z=>?_⟩
    have z:(7:Int)=0:=z;omega
   ·refine ⟨?_,fun _=>R⟩
    revert E;cases res S C T n1 n2 n3 c0 c1 with
    |mk o U=>
     cases o with
     |none=>
      intro E;have E:=E;dsimp only at E;rw [E];cases decide (4000<(U.length:Int))<;>rfl
     |some p=>
      intro E;obtain ⟨_,_,_,_,_,_,E⟩:=E;rw [E];rfl
  refine ⟨i.1,?_⟩;rcases WS hR l M K B v with ⟨k',x',F,G,w⟩|⟨g',u,w⟩
  ·obtain ⟨m2,V,H,W,X,Y,Z,B6,B7,B8⟩:=bz l c.so c.m1 c.m2 c.m3 s F G (now:=7) (by omega) (by omega)
   rw [w];simp only [A5,AX];refine ⟨fun _=>by rw [H];rfl,fun z8 _ _=>?_⟩
   have ap:apB S C n2 c0 c1 (Bb S C r)=true:=by
    obtain ⟨S9,L9,e9,d,w9⟩:=PW hR hC B v;rw [w] at d;refine w9.1 ?_;injection d with d
    injection d with _ d
    injection d with _ d
    injection d with _ d
    injection d with d
    injection d with d
    exact d.symm
   obtain ⟨f0,w0⟩:=y a K ap (i.2 z8);rw [f0,H];simp only [A5,AX];exact fU c.hA c.lA W X Y Z w0 H
  ·rw [w];simp only [A5,AX,tI];exact ⟨fun z=>absurd z u,fun _ _ z=>absurd z u⟩
 exact kW rfl (by rw [J];rfl) rfl (by rw [K];rfl) rfl rfl rfl (fun z=>(rest (k.symm.trans z)).1) (by rw [J];rfl) (fun z=>(rest (k.symm.trans z)).2.1) (fun z=>(rest (k.symm.trans z)).2.2)
end
end Ug
namespace Ug
open Go Go.AE
section
variable [Ai]
variable {S C T N n0 n1 n2 n3 c0 c1 A B way t x ev b dn hp due:D} {en bn hn:Bool} {n:Nat} {m:MS} {r:RS}
theorem bZ {q:Q}:∀{l:List Nat} {a:List Q},WOk a→q.2.length<a.length→WOk (CO S C T q a l)
 |[],a,h,_=>h
 |s::l,a,h,c=>by
  rw [FS];refine bZ ?_ (ge c Qz);unfold Ki;split
  ·exact h
  ·exact h.ad (by rw [L1];exact c)
theorem Wf:∀{f:Nat} {a:List Q} {i:Nat},WOk a→WOk (Ch S C T f a i)
 |0,a,i,h=>h
 |f+1,a,i,h=>by
  rw [Ch];cases e:a[i]? with
  |some q=>
   have hi:i<a.length:=by
    rcases F8 i a.length with z|z
    ·exact z
    ·rw [E4 z] at e;cases e
   exact Wf (bZ h (Nat.lt_of_le_of_lt (h i q e) hi))
  |none=>exact h
theorem fC {k:Key} {q:Q} (h:q∈A6 S C T k):q.2.length<(A6 S C T k).length:=by
 obtain ⟨i,hi⟩:=List.mem_iff_getElem?.1 h;have w:WOk (A6 S C T k):=Wf WOk.one;have:=w i q hi;rcases F8 i (A6 S C T k).length with z|z
 ·omega
 ·rw [E4 z] at hi;cases hi
theorem QV (hR:Rk S C T) (ok:rok N S C T=true) {w:List Nat} (p:Tr w way) (hl:w.length<100000) (f:Int):∀(l:List Nat) (i:Nat) (k d:Key) (t x:D),i+l.length=w.length→(∀(j s:Nat),l[j]?=some s→w[i+j]?=some s)→KOk S C k→Cf S C k t x→goW S C T k l=some d→
  ∃e h,KOk S C d∧Cf S C d e h∧O9 A way (.int f) (.int (i:Nat)) N S C T n0 n1 n2 n3 c0 c1 t x m.nm (.int (len m.st:Int)) (.bool m.stn) (.int (len m.ct:Int)) (.bool m.ctn) (.int (len m.sp:Int)) (.bool m.spn) m.an (.bool m.af) (.int m.aw) (.bool m.ov) ev (.bool en) m.nm (.int (len m.st:Int)) (.bool m.stn) (.int (len m.ct:Int)) (.bool m.ctn) (.int (len m.sp:Int)) (.bool m.spn) m.an (.bool m.af) (.int m.aw) (.bool m.ov) m.ev (.bool m.en) b (.bool bn) m.st m.ct m.sp (.int m.now) dn hp (.bool hn) m.b (.bool m.bn) (.int m.now) m.dn m.hp (.bool m.hn) due m.due=O9 A way (.int f) (.int (w.length:Nat)) N S C T n0 n1 n2 n3 c0 c1 e h m.nm (.int (len m.st:Int)) (.bool m.stn) (.int (len m.ct:Int)) (.bool m.ctn) (.int (len m.sp:Int)) (.bool m.spn) m.an (.bool m.af) (.int m.aw) (.bool m.ov) ev (.bool en) m.nm (.int (len m.st:Int)) (.bool m.stn) (.int (len m.ct:Int)) (.bool m.ctn) (.int (len m.sp:Int)) (.bool m.spn) m.an (.bool m.af) (.int m.aw) (.bool m.ov) m.ev (.bool m.en) b (.bool bn) m.st m.ct m.sp (.int m.now) dn hp (.bool hn) m.b (.bool m.bn) (.int m.now) m.dn m.hp (.bool m.hn) due m.due
 |[],i,k,d,t,x,hi,_,o,q,g=>by
  have g:some k=some d:=g;injection g with g
  subst g;have:i=w.length:=by simpa using hi
  subst this;exact ⟨t,x,o,q,rfl⟩
 |s::l,i,k,d,t,x,hi,hs,o,q,g=>by
  have u:i+(l.length+1)=w.length:=hi;have g:(if s∈enl S C T k then goW S C T (nx S C T k s) l else none)=some d:=g
  by_cases c:s∈enl S C T k;rotate_left
  ·rw [if_neg c] at g;cases g
  rw [if_pos c] at g;have v:=Gp c;obtain ⟨t1,x1,p1,p2⟩:=Zu hR ok o q c
  obtain ⟨e,h,z1,z2,z3⟩:=QV hR ok p hl f l (i+1) (nx S C T k s) d t1 x1 (by omega) (fun j a y=>by
   have:=hs (j+1) a (by rw [EQ];exact y)
   rw [show i+1+j=i+(j+1) by omega]
   exact this) (Ow hR o v.1 v.2) p2 g
  refine ⟨e,h,z1,z2,?_⟩;have c0:=p.c i s (by have:=hs 0 s rfl;simpa using this)
  have z:=p.l;rw [gH (h0:=rfl) (h1:=rfl) (h2:=rfl) (h3:=rfl) (h4:=rfl) (h5:=rfl) (h6:=rfl),ifT (by omega),ifF (by omega),c0,p1]
  simp only [A5,AX,tI,B5,B4];rw [AR (i:=i) (by omega)]
  exact z3
theorem Zf (c:Ctx T n1 n2 n3 c0 c1 A) (h:Inv S C T n m r) (o:Inv S C T n {m with ev:=ev,en:=en,b:=b,bn:=bn,dn:=dn,hp:=hp,hn:=hn,due:=due} r) (d:Mc N S C T m) (k:(DQ S C T).length≤2000→Bb S C r∈DQ S C T) {f:Int} (l:f≠0)
  (p:∀a:Int,Cq N S C T n0 n1 n2 n3 c0 c1=.row [.int 1,.int a,.int 0]→apB S C n2 c0 c1 (Bb S C r)=true→(DQ S C T).length≤2000→False) :
  Q2 A Aw (.int f) N S C T n0 n1 n2 n3 c0 c1 m.nm (.int (len m.st:Int)) (.bool m.stn) (.int (len m.ct:Int)) (.bool m.ctn) (.int (len m.sp:Int)) (.bool m.spn) m.an (.bool m.af) (.int m.aw) (.bool m.ov) ev (.bool en) m.nm (.int (len m.st:Int)) (.bool m.stn) (.int (len m.ct:Int)) (.bool m.ctn) (.int (len m.sp:Int)) (.bool m.spn) m.an (.bool m.af) (.int m.aw) (.bool m.ov) m.ev (.bool m.en) b (.bool bn) m.st m.ct m.sp (.int m.now) dn hp (.bool hn) m.b (.bool m.bn) (.int m.now) m.dn m.hp (.bool m.hn) due m.due=.row [.int 1,.bool true]:=by
 have q:=MM h d.lS d.lC d.lT d.n1 d.n2 d.n3 d.b1 d.b2 d.b3 h.rk.s1;have e:=d.nm;subst e;obtain ⟨y,s,u⟩:=Dj h m.nm m.st (.int (len m.st:Int)) m.ct (.int (len m.ct:Int)) m.sp (.int (len m.sp:Int)) m.due m.stn m.ctn m.spn m.af m.hn m.ov m.aw m.now m.dn m.hp m.ev m.ev;obtain ⟨z,i,j⟩:=Dj o m.nm m.st (.int (len m.st:Int)) m.ct (.int (len m.ct:Int)) m.sp (.int (len m.sp:Int)) due m.stn m.ctn m.spn m.af hn m.ov m.aw m.now dn hp ev ev;dsimp only at i j;have l1:=c.l1;have l2:=c.l2;have l3:=c.l3;have l4:=c.l4;have l5:=c.l5;have v:=V1 (N:=n0) c.i1 c.i2 c.i3 c.i4 c.i5 c.m1 c.m2 c.m3 c.m4 c.m5 (by omega) (by omega) (by omega) (by omega) (by omega)
 rw [gm (h0:=q) (h1:=s) (h2:=v) (h3:=rfl) (h4:=i) (h5:=rfl) (h6:=Sx ..),ifF l];exact Wt c h k u j (fun a K w g=>(p a K w g).elim)
theorem lD (c:Ctx T n1 n2 n3 c0 c1 A) (h:Inv S C T n m r) (o:Inv S C T n {m with ev:=ev,en:=en,b:=b,bn:=bn,dn:=dn,hp:=hp,hn:=hn,due:=due} r) (d:Mc N S C T m) (y:(DQ S C T).length≤2000→Bb S C r∈DQ S C T) (hC:Cv N S C T n0 n1 n2 n3 c0 c1) {q:Q} (z:q∈A6 S C T (Bb S C r)) (E:apB S C n2 c0 c1 q.1=true) (f:Tr q.2 way) (hl:q.2.length<100000) (F:apB S C n2 c0 c1 (Bb S C r)=true→q.2=[]) :
  Q2 A way (.int 0) N S C T n0 n1 n2 n3 c0 c1 m.nm (.int (len m.st:Int)) (.bool m.stn) (.int (len m.ct:Int)) (.bool m.ctn) (.int (len m.sp:Int)) (.bool m.spn) m.an (.bool m.af) (.int m.aw) (.bool m.ov) ev (.bool en) m.nm (.int (len m.st:Int)) (.bool m.stn) (.int (len m.ct:Int)) (.bool m.ctn) (.int (len m.sp:Int)) (.bool m.spn) m.an (.bool m.af) (.int m.aw) (.bool m.ov) m.ev (.bool m.en) b (.bool bn) m.st m.ct m.sp (.int m.now) dn hp (.bool hn) m.b (.bool m.bn) (.int m.now) m.dn m.hp (.bool m.hn) due m.due=.row [.int 1,.bool true]:=by
 have p:=MM h d.lS d.lC d.lT d.n1 d.n2 d.n3 d.b1 d.b2 d.b3 h.rk.s1;have e:=d.nm;subst e;obtain ⟨J,u,G⟩:=Dj h m.nm m.st (.int (len m.st:Int)) m.ct (.int (len m.ct:Int)) m.sp (.int (len m.sp:Int)) m.due m.stn m.ctn m.spn m.af m.hn m.ov m.aw m.now m.dn m.hp m.ev m.ev;obtain ⟨v,g,i⟩:=Dj o m.nm m.st (.int (len m.st:Int)) m.ct (.int (len m.ct:Int)) m.sp (.int (len m.sp:Int)) due m.stn m.ctn m.spn m.af hn m.ov m.aw m.now dn hp ev ev;dsimp only at g i;have l1:=c.l1;have l2:=c.l2;have l3:=c.l3;have l4:=c.l4;have l5:=c.l5;have w:=V1 (N:=n0) c.i1 c.i2 c.i3 c.i4 c.i5 c.m1 c.m2 c.m3 c.m4 c.m5 (by omega) (by omega) (by omega) (by omega) (by omega)
 have hR:=h.rk;obtain ⟨L,M,z1,z2,z3⟩:=QV (A:=A) (way:=way) (n0:=n0) (n1:=n1) (n2:=n2) (n3:=n3) (c0:=c0) (c1:=c1) (ev:=ev) (en:=en) (b:=b) (bn:=bn) (dn:=dn) (hp:=hp) (hn:=hn) (due:=due) (m:=m) hR hC.r1 f hl 0 q.2 0 (Bb S C r) q.1 m.an v (by omega) (fun j s hs=>by rw [R2];exact hs) (LA h) i (Us z)
 obtain ⟨O,P,R,H,w9⟩:=PW hR hC z1 z2;have e0:=w9.2 E;subst e0;have U:=f.l;rw [gm (h0:=p) (h1:=u) (h2:=w) (h3:=rfl) (h4:=g) (h5:=rfl) (h6:=Sx ..),ifT rfl,iT (by rfl)]
 refine Eq.trans (b:=O9 A way (.int 0) (.int ((0:Nat):Int)) m.nm S C T n0 n1 n2 n3 c0 c1 m.an v m.nm (.int (len m.st:Int)) (.bool m.stn) (.int (len m.ct:Int)) (.bool m.ctn) (.int (len m.sp:Int)) (.bool m.spn) m.an (.bool m.af) (.int m.aw) (.bool m.ov) ev (.bool en) m.nm (.int (len m.st:Int)) (.bool m.stn) (.int (len m.ct:Int)) (.bool m.ctn) (.int (len m.sp:Int)) (.bool m.spn) m.an (.bool m.af) (.int m.aw) (.bool m.ov) m.ev (.bool m.en) b (.bool bn) m.st m.ct m.sp (.int m.now) dn hp (.bool hn) m.b (.bool m.bn) (.int m.now) m.dn m.hp (.bool m.hn) due m.due) rfl (z3.trans ?_);rw [gH (h0:=p) (h1:=u) (h2:=w) (h3:=rfl) (h4:=g) (h5:=rfl) (h6:=Sx ..),ifF (by omega),H,iT (by rfl),iT (by rfl)]
 exact Wt c h y G i (fun a K k I=>⟨rfl,by rw [f.l,F k];rfl⟩)
theorem Sn (c:Ctx T n1 n2 n3 c0 c1 A) (Q:∀i:Nat,i<len B→∃x,cl B i 0=.int x) (lB:len B≤10):∀(k i:Nat) (m:MS) (r:RS),i+k=len B→Inv S C T (i+1) m r→Mc N S C T m→((DQ S C T).length≤2000→Bb S C r∈DQ S C T)→
  RA B A (.int (i:Nat)) N S C T n0 n1 n2 n3 c0 c1 m.nm m.st (.bool m.stn) m.ct (.bool m.ctn) m.sp (.bool m.spn) m.an (.bool m.af) (.int m.aw) (.bool m.ov) m.ev (.bool m.en) m.b (.bool m.bn) (.int m.now) m.dn m.hp (.bool m.hn) m.due=.row [.int 1,.bool true]:=by
 intro k
 induction k with
 |zero=>
  intro i m r hi h d v;obtain ⟨ev,b,dn,hp,due,en,bn,hn,G,o⟩:=Ja h (by omega)
  have E:Mc N S C T {m with ev:=ev,en:=en,b:=b,bn:=bn,dn:=dn,hp:=hp,hn:=hn,due:=due}:=⟨d.lS,d.lC,d.lT,d.n1,d.n2,d.n3,d.b1,d.b2,d.b3,d.nm⟩
  have hR:=h.rk;have R:=hR.c1;have s1:=hR.s1;have t1:=hR.t1;have l1:=c.l1;have l2:=c.l2;have l3:=c.l3;have l4:=c.l4;have l5:=c.l5;obtain ⟨a,e,U,V⟩:=J2 N S C T n0 n1 n2 n3 c0 c1;have K:=(Qe (v0:=N) (v1:=S) (v2:=C) (v3:=T) (v4:=n0) (v5:=n1) (v6:=n2) (v7:=n3) (v8:=c0) (v9:=c1) c.tI c.tI7 (by omega) (by omega) (by omega) (by omega) (by omega) (by omega) (by omega) (by omega)).trans U
  by_cases e0:e=0;rotate_left
  ·have F:=xy o E (by omega) K e0
   rw [Vj (h0:=G) (h1:=rfl) (h2:=F),ifF (by omega),iT (by rfl),iT (by rfl)]
   exact Zf c h o d v e0 (fun W u _ _=>by
    rw [K] at u;injection u with u
    injection u with _ u
    injection u with _ u
    injection u with u
    injection u with u
    exact e0 u)
  obtain ⟨r1,r2,l8,p,l9,q⟩:=V e0;subst e0;have hC:Cv N S C T n0 n1 n2 n3 c0 c1:=⟨c.tI,c.tI7,c.hp,by omega,by omega,by omega,r1,r2,l8,p,l9,q⟩
  rcases ou o E (by omega) hC with ⟨f,X,F,y⟩|⟨q,w,J,H,Y,F,Z,fl⟩
  ·rw [Vj (h0:=G) (h1:=rfl) (h2:=F),ifF (by omega),iT (by rfl),iT (by rfl)]
   refine Zf c h o d v X (fun W _ H l=>?_)
   rcases y with z|z
   ·have:=Zp (K0 l) (v l);omega
   ·rw [H] at z;cases z
  ·have ql:=fC J;rw [Vj (h0:=G) (h1:=rfl) (h2:=F),ifF (by omega),iT (by rfl),iF (Tz (by decide)),iT (by rfl)]
   exact lD c h o d v hC J H Y (by omega) Z
 |succ k ih=>
  intro i m r hi h d v;obtain ⟨s,hs⟩:=Q i (by omega)
  obtain ⟨aa,ab,ac,ad,ae,ag,b2,L,ah,ai,M,aj,r2,e2,O,D2,y⟩:=gx h (by omega) 0 s
  rw [←hs] at O
  have z:=ih (i+1) _ r2 (by omega) D2 ⟨d.lS,d.lC,d.lT,d.n1,d.n2,d.n3,d.b1,d.b2,d.b3,d.nm⟩ (fun l=>by
   rcases y with ⟨_,j,_,g,I⟩|⟨_,I,_⟩
   ·rw [I,WV h g.1];exact K0 l _ (v l) j (f6 h g.1 g.2.2.2)
   ·rw [I];exact v l)
  dsimp only at z;rw [Vj (h0:=rfl) (h1:=O) (h2:=rfl),ifT (by omega),ifF (by omega),AR (i:=i) (by omega)]
  simp only [A5,AX,tI,B5,B4];by_cases P:e2=0
  ·rw [iT P];exact z
  ·rw [iF P];exact z
theorem Xb {A:D} (hl:len A≤1000) (X:D):∀(k i:Nat),i+k=len A→∃b,dA A (.int (i:Nat)) X=.row [.int 1,.bool b]:=by
 intro k
 induction k with
 |zero=>
  intro i hi;exact ⟨true,by rw [wi,ifF (by omega)]⟩
 |succ k a=>
  intro i hi;rw [wi,ifT (by omega),ifF (by omega),AR (i:=i) (by omega)]
  by_cases c:40<(BE (cl A i 3):Int)
  ·exact ⟨false,by rw [ifT c]⟩
  rw [ifF c];by_cases d:40<(BE (cl A i 4):Int)
  ·exact ⟨false,by rw [ifT d]⟩
  rw [ifF d];exact a (i+1) (by omega)
theorem fZ (A:D):∃b,dE Aw (.bool true) A (.int 0) (.int 20)=.row [.int 1,.bool b]∧(b=true→len A≤20):=by
 rw [zM,ifF (by rw [Bw];omega)]
 by_cases c:20<(len A:Int)
 ·exact ⟨false,by rw [ifT c],fun z=>by cases z⟩
 rw [ifF c,zE,ifF (by rw [Bw];omega)]
 obtain ⟨b,a⟩:=Xb (A:=A) (by omega) Aw (len A) 0 (by omega)
 exact ⟨b,a,fun _=>by omega⟩
theorem law {v0 v1 v2 v3 v4 v5 v6 v7 v8 v9 aB aA:D} (hs:We v3) (hs7:We v7) (hp:Hq v9) (so:PI v1) (g:PI v5) (hC:∀i:Nat,i<len v2→∃x,cl v2 i 1=.int x) (j:∀i:Nat,i<len v6→∃x,cl v6 i 1=.int x) (k:∀i:Nat,i<len aB→∃x,cl aB i 0=.int x) (hA:∀i:Nat,i<len aA→(∃x,cl aA i 1=.int x)∧(∃x,cl aA i 2=.int x))
  (n1:Bf v1) (n2:Bf v2) (n3:Bf v3) (i1:IsL v1) (i2:IsL v2) (i3:IsL v3) (l:Bf v5) (o:Bf v6) (p:Bf v7) (q:Bf v8) (s:Bf v9) (i5:IsL v5) (u:IsL v6) (v:IsL v7) (w:IsL v8) (y:IsL v9):iy v0 v1 v2 v3 v4 v5 v6 v7 v8 v9 aB aA=.row [.int 1,.bool true]:=by
 have E:=yr v0 v1 v2 v3 v4 v5 v6 v7 v8 v9 aB aA;obtain ⟨z,p0,F⟩:=Sr v0 v1 v2 v3;obtain ⟨b1,p1,G⟩:=Sr v4 v5 v6 v7;rw [p0,p1,knT] at E;simp only [A5,AX,tI,tB,B5,B4] at E;cases z
 ·exact E
 cases b1
 ·exact E
 obtain ⟨a1,a2,a3,a4⟩:=F rfl;obtain ⟨a5,a6,a7,a8⟩:=G rfl;simp only [B4] at E
 have H:∃b,Xk v8 v9=.row [.int 1,.bool b]∧(b=true→len v8≤10∧len v9≤10):=by
  rw [yT];by_cases c:10<(len v8:Int)
  ·rw [ifT c];exact ⟨_,rfl,fun h=>by cases h⟩
  ·rw [ifF c];refine ⟨_,rfl,fun h=>⟨by omega,?_⟩⟩
   by_cases d:10<(len v9:Int)
   ·rw [F6 d] at h;cases h
   ·omega
 obtain ⟨b2,p2,I⟩:=H;rw [p2] at E;simp only [A5,AX,tI,tB,B5,B4] at E;cases b2
 ·exact E
 obtain ⟨a9,a10⟩:=I rfl;simp only [B4] at E;by_cases c:10<(len aB:Int)
 ·rw [iT c] at E;exact E
 rw [iF c] at E;obtain ⟨b3,p3,J⟩:=fZ aA;rw [p3] at E;simp only [A5,AX,tI,tB,B5,B4] at E;cases b3
 ·exact E
 have a11:=J rfl;simp only [B4] at E;have f:CJ v3:=a4 hs;have tI7:CJ v7:=a8 hs7;by_cases e:GU v0 v1 v2 v3=0
 ·have rk:Rk v1 v2 v3:=Zn (by rw [←Hw];exact F6 e) hC f (by omega) (by omega)
  obtain ⟨m,r,p1,h,x1,x2,x3,x4,x5,x6,x7,x8,x9,x10,x11,x12⟩:=cr rk so n1 n2 n3 e;have P:=Sn (A:=aA) (N:=v0) (n0:=v4) (n1:=v5) (n2:=v6) (n3:=v7) (c0:=v8) (c1:=v9) ⟨f,tI7,hp,g,j,l,o,p,q,s,i5,u,v,w,y,by omega,by omega,by omega,by omega,by omega,hA,a11⟩ k (by omega) (len aB) 0 m r (by omega) h ⟨i1,i2,i3,n1,n2,n3,x9,x10,x11,x1⟩ (fun _=>by rw [x12];exact kD)
  rw [x1,x2,x3,x4,x5] at P;have a:=gO v0 v1 v2 v3;rw [p1] at a;simp only [A5,AX,tI,B5,B4] at a;rw [a] at E;simp only [A5,AX,tI,tB,B5,B4] at E;exact E.trans P
 ·obtain ⟨K,L⟩:=JZ (v1:=v1) (v2:=v2) f (by omega) (by omega) (by omega) v0
  have p1:Ci v0 v1 v2 v3=.row [.int 2,.int (GU v0 v1 v2 v3)]:=by
   rw [YU,L,ifT (by rfl),ifF (by exact e)]
   rfl
  have a:=gO v0 v1 v2 v3;rw [p1,iF (Tz (by decide)),iT (by rfl),iF (by exact e)] at a
  rw [a,iF (Tz (by decide)),iT (by rfl),iF (by exact e)] at E
  exact E
end
end Ug

