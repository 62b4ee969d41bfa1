/- What is proved here: an evaluator of the model's steps that the kernel can run, and that whatever it answers is what the model does (part 4 of 7: AeMap2, AeCat, AeOps19, AeOps20, AeStep1, AeStep2, AeStep3, AeStep4, AeStep5, AeStep6, AeStep7, AeDraw1, AeDraw2, AeDraw3, AeDraw4, AeDraw5, AeDraw6). Conditions: those that each theorem states; they hold of no one program. -/
import Derived.Test.YtojjaeaohjlfnaaGreatBeC
set_option linter.unusedVariables false
set_option linter.unusedSectionVars false
set_option linter.unusedSimpArgs false
namespace Go.AE
variable [Gl:AC]
variable [U:Unk]
theorem Ho {a:Type} {l:List a} {n j:Nat} {d:a}:(l.drop n).getD j d=l.getD (n+j) d:=by
 rw [F2,F2,l0]
theorem Kr {a:Type} {l:List a} {n q:Nat} {f:a→a} (h:q≠n):(l.modify n f)[q]?=l[q]?:=by
 rw [List.getElem?_modify];cases l[q]?<;>simp [Ne.symm h]
theorem Ej {i:Ren} {ks:List Kd} {a:AV} {v:Value} (h:HN ks a=true) (e:VR i a v) (g:v.cells.toList.length=ks.length) :
  v=U0 v.cells.toList∧∀u,v.cells.toList=[u]→∀x,u≠.agg x:=by
 have key:∀(b:List Value),b.length≠1→U0 b=.agg b.toArray:=by
  intro b f;rcases b with _|⟨x,_|⟨y,b⟩⟩
  ·rfl
  ·exact absurd rfl f
  ·rfl
 rcases ks with _|⟨k,_|⟨k2,ks⟩⟩
 ·cases e<;>simp only [HN,ei] at h
  rename_i l b j m;have c:b.length=0:=g;exact ⟨(key b (by omega)).symm,fun u d=>by have:b=[u]:=d;rw [this] at c;simp at c⟩
 ·cases e<;>simp only [HN,ei] at h<;>exact ⟨rfl,fun u d x n=>by
   subst n;simp only [Value.cells] at d;cases d⟩
 ·cases e<;>simp only [HN,ei] at h
  rename_i l b j m;have c:b.length=ks.length+2:=g;exact ⟨(key b (by omega)).symm,fun u d=>by have:b=[u]:=d;rw [this] at c;simp at c⟩
theorem Du {ks:List Kd} {a:AV} (h:HN ks a=true):a≠.top:=by
 rintro rfl
 rcases ks with _|⟨k,_|⟨k2,ks⟩⟩<;>simp [HN] at h
theorem Pb {ρ:Ren} {a:List Kd} {k:AV} {b:SE} {c:Value} (h:Ww a k=some b) (d:VR ρ k c):(Ab U.V b).cells.length=a.length∧KV U.K ρ.imm a c (Ab U.V b).cells:=by
 unfold Ww at h;split at h
 ·rename_i e;obtain ⟨g,f,i⟩:=GH _ _ _ _ h (d.cells (Du e));obtain ⟨w1,w2⟩:=Ej e d f;exact ⟨g,_,w1,f,w2,i⟩
 ·cases h
theorem PP {ρ:Ren} {a b:List Kd} {k v:AV} {r:SE} {e f:Value} (h:Xj a b k v=some r) (l:VR ρ k e) (m:VR ρ v f) :
  (Ab U.V r).cells.length=a.length+b.length∧KV U.K ρ.imm a e (Ab U.V r).cells∧KV U.K ρ.imm b f ((Ab U.V r).cells.drop a.length):=by
 unfold Xj at h;split at h
 ·rename_i g;obtain ⟨g,c3⟩:=Au g;obtain ⟨c1,c2⟩:=Au g;have c3:=Ax c3;have k1:=l.cells (Du c1);have o:=m.cells (Du c2);obtain ⟨p,q,n⟩:=GH _ _ _ _ h (k1.append o);have i:e.cells.toList.length=a.length:=by have:=k1.1;omega
  have vl:f.cells.toList.length=b.length:=by simp only [la] at q;omega
  obtain ⟨w1,w2⟩:=Ej c1 l i;obtain ⟨w3,w4⟩:=Ej c2 m vl;refine ⟨by rw [p];simp,⟨_,w1,i,w2,fun j kd c=>?_⟩,⟨_,w3,vl,w4,fun j kd c=>?_⟩⟩
  ·have d:=(Id.1 c).1;have:=n j kd (by rw [R2 d];exact c)
   rwa [F2,R2 (by omega),←F2] at this
  ·have d:=(Id.1 c).1;have:=n (a.length+j) kd (by rw [Ts (by omega),Aeh];exact c)
   rw [F2,Ts (by omega),i,Aeh,←F2] at this
   rw [Ho];exact this
 ·cases h
theorem JS {a r:SE}:(Ab U.V (.snoc a r)).rows=(Ab U.V a).rows++[Ab U.V r]:=rfl
theorem M4 {ρ:Ren} {a b:List Kd}:∀{d:List AA} {c:List MapEntry} {y z:SE} {es0:List MapEntry},Nf a b y d=some z→ER ρ d c→Bp U.K ρ.imm a b es0 (Ab U.V y).rows→Bp U.K ρ.imm a b (es0++c) (Ab U.V z).rows
 |[],[],y,z,es0,h,_,f=>by
  simp only [Nf,C2] at h;subst h;simpa using f
 |e::d,g::c,y,z,es0,h,⟨i,j,p,k⟩,f=>by
  simp only [Nf] at h;split at h
  ·rename_i x l;obtain ⟨m,n,o⟩:=PP l i j;have:=M4 (es0:=es0++[g]) h k (by rw [JS];exact Bp.push m n o f)
   simpa using this
  ·cases h
 |[],_::_,_,_,_,_,h,_=>h.elim
 |_::_,[],_,_,_,_,h,_=>h.elim
theorem Vi {ρ:Ren} {j k:TypeId} {d e:List Kd} {b:Option Am} {x:SE} {base:Cr} {o:Option Obj} (h:ay j k d e b=some x) (l:∀y,b=some y→BR ρ y base o) (m:U.K j=some d) (n:U.K k=some e) :
  ∃c:List MapEntry,∃a,o=some (.map c.toArray a)∧Bp U.K ρ.imm d e c (Ab U.V x).rows∧Inc c a:=by
 unfold ay at h;split at h
 ·rename_i p q w;split at h
  ·rename_i r;cases h;obtain ⟨c1,c2⟩:=Au r;have c1:=Ax c1;have c2:=Ax c2;subst c1;subst c2;obtain ⟨k1,z,c,a,i,f,s,t,u⟩:=l _ rfl;rw [m] at i;rw [n] at f;cases i;cases f;exact ⟨c,a,s,t,u⟩
  ·cases h
 ·rename_i v a;split at h
  ·rename_i g;obtain ⟨c,i,f⟩:=l _ rfl;have:=M4 (es0:=[]) h f trivial;exact ⟨c,a,i,by simpa using this,(PI v c 0 a g f).2⟩
  ·cases h
 ·cases h
theorem MK {a i:SE} {j:Nat} {x:SE}:(Ab U.V (.upd a i j x)).rows=(Ab U.V a).rows.modify (Ac U.V i).toNat fun r=>.row (r.cells.set j (Ab U.V x)):=rfl
theorem GE {o:Ren} {ks:List Kd} {i:SE}:∀(l:List AV) (m:List Value) (j:Nat) (y d:SE) (r:D),Da i ks y j l=some d→VL o l m→(Ab U.V y).rows[(Ac U.V i).toNat]?=some r→j+l.length≤r.cells.length→
  (Ab U.V d).rows.length=(Ab U.V y).rows.length∧(∀q,q≠(Ac U.V i).toNat→(Ab U.V d).rows[q]?=(Ab U.V y).rows[q]?)∧
  ∃e,(Ab U.V d).rows[(Ac U.V i).toNat]?=some e∧e.cells.length=r.cells.length∧(∀p,p<j∨j+l.length≤p→e.cells.getD p default=r.cells.getD p default)∧
   ∀(q:Nat) kd,q<l.length→ks[j+q]?=some kd→DV U.K o.imm kd (m.getD q Go.undef) (e.cells.getD (j+q) default)
 |[],m,j,y,d,r,h,s,n,t=>by
  simp only [Da,C2] at h;subst h;exact ⟨rfl,fun _ _=>rfl,r,n,rfl,fun _ _=>rfl,fun q kd f=>absurd f (hH q)⟩
 |a::l,m,j,y,d,r,h,s,n,t=>by
  obtain ⟨v,vr,rfl,u,w⟩:=s.cons_inv;simp only [Da] at h;split at h
  ·rename_i k z;split at h
   ·rename_i x A;have B:=Lq u A
    have g:(Ab U.V (.upd y i j x)).rows[(Ac U.V i).toNat]?=some (.row (r.cells.set j (Ab U.V x))):=by
     rw [MK,List.getElem?_modify_eq,n];rfl
    simp only [kp] at t;obtain ⟨a1,a2,e,a3,a4,a5,a6⟩:=GE l vr (j+1) _ d _ h w g (by show j+1+l.length≤(r.cells.set j (Ab U.V x)).length;simp;omega)
    have b:(D.row (r.cells.set j (Ab U.V x))).cells=r.cells.set j (Ab U.V x):=rfl;rw [b] at a4 a5;refine ⟨by rw [a1,MK];simp,fun q f=>by rw [a2 q f,MK,Kr f],e,a3,by rw [a4];simp,fun p C=>?_,fun q kd f c=>?_⟩
    ·simp only [kp] at C;rw [a5 p (by omega),F2,F2,List.getElem?_set_ne (by omega)]
    ·cases q with
     |zero=>
      rw [n0] at c ⊢;rw [z] at c;cases c;rw [a5 j (by omega),NW,F2,List.getElem?_set_self (by omega)]
      exact B
     |succ q=>
      rw [C6,show j+(q+1)=j+1+q by omega]
      exact a6 q kd (by simpa using f) (by rw [←c];congr 1;omega)
   ·cases h
  ·cases h
theorem IC {E:Env} (hE:OK E) {t e f:TypeId} {c d:List Kd} (h:MI E t=some (e,f,c,d)):E.desc t=some (.map e f)∧U.K e=some c∧U.K f=some d∧Hq E e c=true:=by
 unfold MI at h;split at h
 ·rename_i g i j;split at h
  ·rename_i a b k l;split at h
   ·rename_i m;cases h;exact ⟨j,by rw [hE.kd,←hE.ke];exact k,by rw [hE.kd,←hE.ke];exact l,m⟩
   ·cases h
  ·cases h
 ·cases h
theorem Ig {E:Env} {b:TypeId} {k:AV} (a:Co E 20 b k=true):∃c,E.desc b=some c:=by
 simp only [Co] at a;cases d:E.desc b with
 |none=>simp [d] at a
 |some c=>exact ⟨c,rfl⟩
section
variable {E:Env} (hE:OK E) {ρ:Ren} {h:Aa} {w:World}
include hE
theorem Uq (hr:HR ρ h.blk.get w) {t:TypeId} {m k a:AV} {mv M:Value} {ok:Bool} (hm:VR ρ m mv) (hk:VR ρ k M) (g:Pf E t m k ok h=some a) :
  ∃v,(Instr.lookup t mv M ok).run E.P w=.ok v w∧VR ρ a v:=by
 unfold Pf at g;split at g
 ·rename_i kt vt d H r ht;obtain ⟨hd,R,S,C⟩:=IC hE ht;split at g
  ·rename_i ah ai x hg;split at g
   ·rename_i z D T hz W;obtain ⟨T,c3⟩:=Au T;obtain ⟨c1,c2⟩:=Au T;have c1:=Ax c1;have c2:=Ax c2;subst c1;subst c2;obtain ⟨zv,z1,z2⟩:=hE.run_zero ρ hz w;have X:=AZ ρ z2;have I:∀Y,(Instr.checkKey Y 10000 kt M).run E.P w=.ok () w:=fun Y=>ED (w:=w) hE Y 9980 20 kt k M c3 hk
    obtain ⟨ds,Z⟩:=Ig c3;obtain ⟨kl,aa⟩:=Pb W hk
    have fin:∀(v:AV) (b:Bool) (J:Value),VR ρ v J→VR ρ (Nr ok v b) (if ok then .tuple #[J,.bool b] else J):=by
     intro v b J N;cases ok with
     |true=>
      have:=VL.cons N (VL.cons (VR.bool (ρ:=ρ) b) (VL.nil ρ));exact .tuple _ [J,.bool b] this.1 this.2
     |false=>exact N
    cases hm with
    |map _ base hb=>
     obtain ⟨k1,v1,ab,F,e1,e2,e3,e4,_⟩:=hr.blk r base _ hb hg;rw [R] at e1;rw [S] at e2;cases e1;cases e2;have u:(getObj base.cb).run E.P w=.ok (.map ab.toArray F) w:=by simp [getObj,Sem.run,e3]
     have f:=GK (w:=w) hE C aa (by omega) Z e4
     have y:=Hk (k:=(Ab U.V D).cells) 0 e4;have i:Ac U.V (.mIdx d x D)=Ff d (Ab U.V D).cells (Ab U.V x).rows 0:=rfl;split at g
     ·rename_i o;cases g;have s:=Av U.ok o;rw [Ay,ll] at s;have z0:Ac U.V (.c 0)=0:=rfl;rw [z0,i] at s;rcases y with ⟨a1,a2⟩|⟨n,e,r',a1,a2,a3⟩
      ·rw [a1] at f;refine ⟨_,?_,fin z false zv X⟩;simp [Instr.lookup,hE.run_und hd,u,I,f,z1]
      ·omega
     ·rename_i o;split at g
      ·rename_i l ac;cases g;have s:=Av U.ok o;rw [Ay,tl] at s;have z0:Ac U.V (.c 0)=0:=rfl;rw [z0,i] at s;rcases y with ⟨a1,a2⟩|⟨n,e,r',a1,a2,a3,a4,a5⟩
       ·omega
       ·rw [a1] at f;obtain ⟨q1,⟨lk,k1,k2,k3,k4⟩,⟨O,v1,v2,v3,v4⟩⟩:=e4.get a3 a4;have hn:(Ac U.V (.mIdx d x D)).toNat=n:=by rw [i,a2];simp
        have L:(Ab U.V x).rows.getD n default=r':=by rw [F2,a4];rfl
        have G:∀j,Ab U.V (.cell x (.mIdx d x D) j)=r'.cells.getD j default:=by
         intro j;show ((Ab U.V x).rows.getD (Ac U.V (.mIdx d x D)).toNat default).cells.getD j default=_;rw [hn,L]
        have A:∀p,((lk++O).toArray).getD p Go.undef=(lk++O).getD p Go.undef:=by intro p;simp [L1,F2]
        have N:∀j kd,(d++H)[j]?=some kd→DV U.K ρ.imm kd ((lk++O).toArray.getD (0+j) Go.undef) (Ab U.V (.cell x (.mIdx d x D) j)):=by
         intro j kd Q;rw [G,A,pc,F2];by_cases ad:j<d.length
         ·rw [R2 ad] at Q;rw [R2 (by omega),←F2]
          exact k4 j kd Q
         ·rw [Ts (by omega)] at Q
          rw [Ts (by omega),←F2,k2]
          have:=v4 (j-d.length) kd Q;rw [Ho,show d.length+(j-d.length)=j by omega] at this
          exact this
        obtain ⟨p1,p2,p3⟩:=Il N H.length d.length l ac
        have ae:VL ρ l O:=by
         refine ⟨by omega,fun q a v af ag=>?_⟩
         have:=p3 q a af;rw [A,pc,F2,Ts (by omega),k2,Aeh,ag] at this
         exact this
        have B:=Qo ae;rw [←v1] at B;refine ⟨_,?_,fin _ true e.val B⟩;simp [Instr.lookup,hE.run_und hd,u,I,f]
      ·cases g
     ·cases g
   ·cases g
  ·cases g
 ·cases g
theorem Te (Z:HR ρ h.blk.get w) {t:TypeId} {m k v:AV} {mv C p:Value} {h':Aa} (hm:VR ρ m mv) (L:VR ρ k C) (hv:VR ρ v p) (s:PQ E t m k v h=some h') :
  ∃w',(Instr.mapUpdate t mv C p).run E.P w=.ok () w'∧HR ρ h'.blk.get w'∧Ext ρ ρ h h' w w':=by
 unfold PQ at s;split at s
 ·rename_i W vt g l r ht;obtain ⟨hd,G,H,u⟩:=IC hE ht;split at s
  ·rename_i x X c3 I aa;have M:∀em,(Instr.checkKey em 10000 W C).run E.P w=.ok () w:=fun em=>ED (w:=w) hE em 9980 20 W k C c3 L
   obtain ⟨ds,ab⟩:=Ig c3;obtain ⟨kl,N⟩:=Pb aa L;cases hm with
   |map _ base hb=>
    have z:h.blk.get r≠none:=by
     intro e;rw [e] at I;cases I
    obtain ⟨o,a,e3,O,e5⟩:=Vi I (fun y hy=>Z.blk r base y hb hy) G H
    have D:=A7 (w:=w) E.P e3 (by simp)
    have b:=GK (w:=w) hE u N (by omega) ab O
    have F:=Hk (k:=(Ab U.V X).cells) 0 O;have A:Ac U.V (.mIdx g x X)=Ff g (Ab U.V X).cells (Ab U.V x).rows 0:=rfl;split at s
    ·rename_i row d B;cases s;have i:=Av U.ok B;rw [Ay,ll] at i;have z0:Ac U.V (.c 0)=0:=rfl;rw [z0,A] at i;rcases F with ⟨a1,a2⟩|⟨n,e,r',a1,a2,a3⟩
     ·rw [a1] at b;obtain ⟨q1,Y,q3⟩:=PP d L hv;obtain ⟨p1,p2⟩:=Z.setObj hb z (.dmap W vt (.snoc x row)) (.map (o.toArray.push {key:=C,val:=p,born:=a}) (a+1))
       ⟨g,l,o++[{key:=C,val:=p,born:=a}],a+1,G,H,by simp,by rw [JS];exact Bp.push q1 Y q3 O,e5.push C p⟩
      refine ⟨_,?_,p1,p2⟩;simp [Instr.mapUpdate,hE.run_und hd,D,M,b,Bg (w:=w) E.P e3 (by simp)]
     ·omega
    ·rename_i row d B;split at s
     ·rename_i y hy;cases s;have i:=Av U.ok B;rw [Ay,tl] at i;have z0:Ac U.V (.c 0)=0:=rfl;rw [z0,A] at i;rcases F with ⟨a1,a2⟩|⟨n,e,r',a1,a2,a3,a4,a5⟩
      ·omega
      ·rw [a1] at b;have hn:(Ac U.V (.mIdx g x X)).toNat=n:=by rw [A,a2];simp
       obtain ⟨q1,Y,q3⟩:=O.get a3 a4;obtain ⟨_,_,Q⟩:=YZ (w:=w) hE u Y N (by omega) (by omega)
       have ac:e.key=C:=Q a5;unfold Xj at d;split at d
       ·rename_i hc;obtain ⟨hc,c6⟩:=Au hc;obtain ⟨c4,c5⟩:=Au hc;have J:=hv.cells (Du c5);have ad:=GH _ _ _ _ d ((L.cells (Du c4)).append J);have c6:=Ax c6;have aj:=(L.cells (Du c4)).1;have vl:p.cells.toList.length=l.length:=by have:=ad.2.1;simp only [la] at this;omega
        have ak:v.cells.length=l.length:=by have:=J.1;omega
        obtain ⟨u1,u2,r2,u3,u4,u5,u6⟩:=GE _ _ _ _ _ r' hy J (by rw [hn];exact a4) (by omega)
        rw [hn] at u2 u3;obtain ⟨w3,w4⟩:=Ej c5 hv vl;obtain ⟨nk,w1,s1,s2,s3,s4,s5,s6⟩:=D0 (w:=w) E.P e.key C;have ae:nk=e.key:=by rcases s2 with rfl|rfl;exact ac.symm;rfl
        subst ae;have af:HR ρ h.blk.get w1:=Z.same s3
        have ag:KV U.K ρ.imm g e.key r2.cells:=by
         obtain ⟨lk,k1,k2,k3,k4⟩:=Y;refine ⟨lk,k1,k2,k3,fun j kd R=>?_⟩
         have i:=(Id.1 R).1;rw [u5 j (.inl i)];exact k4 j kd R
        have ah:KV U.K ρ.imm l p (r2.cells.drop g.length):=by
         refine ⟨_,w3,vl,w4,fun j kd R=>?_⟩
         have i:=(Id.1 R).1;rw [Ho];exact u6 j kd (by omega) (by rw [Ts (by omega),Aeh];exact R)
        have al:n<o.length:=(Id.1 a3).1
        have S:Bp U.K ρ.imm g l (o.modify n fun T=>{T with key:=e.key,val:=p}) (Ab U.V y).rows:=by
         refine Bp.change (x:={key:=e.key,val:=p,born:=e.born}) (y:=r2) (by rw [u4];exact q1) ag ah n O (by simp) u1 (fun q hq=>Kr hq) (fun q hq=>u2 q hq) (fun _=>by rw [List.getElem?_modify_eq,a3];rfl) (fun _=>u3)
        obtain ⟨p1,p2⟩:=af.setObj hb z (.dmap W vt y) (.map (o.toArray.modify n fun T=>{T with key:=e.key,val:=p}) a)
         ⟨g,l,_,a,G,H,by simp [List.modify_toArray],S,e5.modify (f:=fun T=>{T with key:=e.key,val:=p}) (fun _=>rfl) n⟩
        refine ⟨_,?_,p1,p2.drawn s3 s4 s5 s6⟩;have ai:w1.heap[base.cb]?=some (.map o.toArray a):=by rw [s3];exact e3
        simp only [pc] at b;simp only [Instr.mapUpdate,F9,hE.run_und hd,E1,D,M,b,sf,a3,pl,Aen,s1];rw [Bg (w:=w1) E.P ai (by simp)]
       ·cases d
     ·cases s
    ·cases s
  ·cases s
 ·cases s
theorem SW (b:HR ρ h.blk.get w) {t:TypeId} {m k v:AV} {g i j:Value} {h':Aa} (c:VR ρ m g) (d:VR ρ k i) (e:VR ρ v j) (a:Pj E t m k v h=some h') :
  ∃f,(Instr.mapUpdate t g i j).run E.P w=.ok () f∧HR ρ h'.blk.get f∧Ext ρ ρ h h' w f:=by
 unfold Pj at a;split at a
 ·split at a
  ·rename_i q;cases a;exact Te hE b c d e q
  ·exact It hE b c d e a
 ·exact It hE b c d e a
theorem Wi (hr:HR ρ h.blk.get w) {t:TypeId} {m k a:AV} {mv j:Value} {h':Aa} (hm:VR ρ m mv) (hk:VR ρ k j) (l:UL E t m k h=some (a,h')) (hf:AX ρ h.nx h'.nx) :
  A4 E ρ h h' w (Instr.mapEntry t mv j) a:=by
 unfold UL at l;split at l
 ·rename_i o v g A r ht;obtain ⟨hd,B,C,D⟩:=IC hE ht;split at l
  ·rename_i x kr z c3 F aa hz;have ab:∀em,(Instr.checkKey em 10000 o j).run E.P w=.ok () w:=fun em=>ED (w:=w) hE em 9980 20 o k j c3 hk
   obtain ⟨ds,ac⟩:=Ig c3;obtain ⟨kl,ad⟩:=Pb aa hk;obtain ⟨G,z1,z2⟩:=hE.run_zero ρ hz w;have J:=AZ ρ z2;cases hm with
   |map _ base H=>
    have I:h.blk.get r≠none:=by
     intro e;rw [e] at F;cases F
    obtain ⟨p,d,e3,Z,e5⟩:=Vi F (fun y hy=>hr.blk r base y H hy) B C
    have L:=A7 (w:=w) E.P e3 (by simp)
    have i:=GK (w:=w) hE D ad (by omega) ac Z
    have M:=Hk (k:=(Ab U.V kr).cells) 0 Z;have N:Ac U.V (.mIdx g x kr)=Ff g (Ab U.V kr).cells (Ab U.V x).rows 0:=rfl;split at l
    ·rename_i row O Q;simp only [C2,hS] at l;obtain ⟨rfl,rfl⟩:=l;have q:=Av U.ok Q;rw [Ay,ll] at q;have z0:Ac U.V (.c 0)=0:=rfl;rw [z0,N] at q;rcases M with ⟨a1,a2⟩|⟨n,e,r',a1,a2,a3⟩
     ·rw [a1] at i;obtain ⟨q1,q2,q3⟩:=PP O hk J;have s:Bp U.K ρ.imm g A (p++[{key:=j,val:=G,born:=d}]) (Ab U.V (.snoc x row)).rows:=by rw [JS];exact Bp.push q1 q2 q3 Z
      have u:=e5.push j G;obtain ⟨p1,p2⟩:=hr.setObj H I (.dmap o v (.snoc x row)) (.map (p.toArray.push {key:=j,val:=G,born:=d}) (d+1))
       ⟨g,A,p++[{key:=j,val:=G,born:=d}],d+1,B,C,by simp,s,u⟩
      have f:ρ h.nx=none:=hf h.nx (IqQ _) (by simp [Aa.put,Aa.stampN])
      have R:r≠h.nx:=by rintro rfl;rw [f] at H;cases H
      have S:(h.put r (.dmap o v (.snoc x row))).blk.get r≠none:=by simp [Aa.put,T.get_set]
      obtain ⟨s1,s2⟩:=p1.stamp (h:=h.put r (.dmap o v (.snoc x row))) f H S d;have ae:(ρ.upd h.nx ⟨base.cb,d,base.csz⟩) r=some base:=by simp [Ren.upd,R,H]
      have af:(h.put r (.dmap o v (.snoc x row))).stampN.blk.get r≠none:=by
       show ((h.put r (.dmap o v (.snoc x row))).blk.del h.nx).get r≠none;rw [T.get_del,if_neg (fun e=>R e.symm)]
       exact S
      have W:=Ren.le_upd f ⟨base.cb,d,base.csz⟩;have X:=Z.length
      obtain ⟨t1,t2⟩:=HR.put (h:=(h.put r (.dmap o v (.snoc x row))).stampN) s1 ae af (.dmapS o v (.snoc x row) (.lenL x) h.nx) _ (by
       have q:=hr.lt r base H;show BR _ _ _ (w.heap.setIfInBounds base.cb _)[base.cb]?;rw [Array.getElem?_setIfInBounds_self_of_lt q];refine ⟨g,A,p++[(⟨j,G,d⟩:MapEntry)],d+1,B,C,by simp,s.mono W.imm,u,⟨base.cb,d,base.csz⟩,Ren.upd_same _ _ _,?_⟩
       rw [Aq,Aep,←X];simp) rfl (fun _ _=>rfl) rfl rfl rfl
      have Y:VR (ρ.upd h.nx ⟨base.cb,d,base.csz⟩) (.tuple [z,.stamp h.nx]) (.tuple #[G,goInt d]):=by
       have:=VL.cons (J.mono W) (VL.cons (VR.stamp (ρ:=ρ.upd h.nx ⟨base.cb,d,base.csz⟩) h.nx ⟨base.cb,d,base.csz⟩ (Ren.upd_same _ _ _)) (VL.nil _));exact .tuple _ [G,goInt d] this.1 this.2
      refine ⟨_,_,_,?_,Y,t1,(p2.trans s2 (fun b b1 b2=>hf b b1 (by simp only [Aa.put,Aa.stampN] at b2 ⊢;omega))).trans t2 (fun b b1 b2=>hf b b1 (by simp only [Aa.put,Aa.stampN] at b2 ⊢;omega))⟩
      simp [Instr.mapEntry,hE.run_und hd,L,ab,i,z1,Bg (w:=w) E.P e3 (by simp)]
     ·omega
    ·cases l
  ·cases l
 ·cases l
theorem WD (c:HR ρ h.blk.get w) {t:TypeId} {m k a:AV} {f g:Value} {h':Aa} (d:VR ρ m f) (e:VR ρ k g) (b:SQ E t m k h=some (a,h')) (i:AX ρ h.nx h'.nx) :
  A4 E ρ h h' w (Instr.mapEntry t f g) a:=by
 unfold SQ at b;split at b
 ·split at b
  ·rename_i r j;cases b;exact Wi hE c d e j i
  ·exact Od hE c d e b
 ·exact Od hE c d e b
omit hE in
theorem Sx {es:List MapEntry} {n s:Nat} (hp:(es.map (·.born)).Pairwise (· < ·)) (hn:(es[n]?).map (·.born)=some s):es.toArray.findIdx? (fun e=>(e.born:Int)==(s:Int))=some n:=by
 obtain ⟨e,he,hs⟩:=Option.map_eq_some_iff.1 hn;have hlt:=(Id.1 he).1;have hge:=(Id.1 he).2;rw [List.findIdx?_toArray,List.findIdx?_eq_some_iff_getElem];refine ⟨hlt,by rw [hge,hs];simp,fun j hj=>?_⟩
 have hj':j<es.length:=by omega
 have:=List.pairwise_iff_getElem.1 hp j n (by simpa using hj') (by simpa using hlt) hj
 simp only [List.getElem_map,hge,hs] at this;simp only [beq_iff_eq,Bool.not_eq_true,beq_eq_false_iff_ne,ne_eq];omega
theorem MG (T:HR ρ h.blk.get w) {t:TypeId} {m v:AV} {b:Nat} {W X g:Value} {h':Aa} (hm:VR ρ m W) (hs:VR ρ (.stamp b) X) (Y:VR ρ v g) (i:GR E t m b v h=some h') :
  ∃F,(Instr.entryStore t W X g).run E.P w=.ok () F∧HR ρ h'.blk.get F∧Ext ρ ρ h h' w F:=by
 unfold GR at i;split at i
 ·rename_i kt vt c d r ht;obtain ⟨hd,l,o,G⟩:=IC hE ht;split at i
  ·rename_i ab ac x ne b' Z;split at i
   ·rename_i y k hy;cases i;obtain ⟨k,c5⟩:=Au k;obtain ⟨k,c4⟩:=Au k;obtain ⟨k,c3⟩:=Au k;obtain ⟨c1,c2⟩:=Au k;have c1:=Ax c1;have c2:=Ax c2;have c3:=Ax c3;have c5:=Ax c5;subst c1;subst c2;subst c3;cases hm with
    |map _ base hb=>
     obtain ⟨k1,v1,p,a,e1,e2,e3,H,e5,bs,e6,I⟩:=T.blk r base _ hb Z;rw [l] at e1;rw [o] at e2;cases e1;cases e2;cases hs with
     |stamp _ ad u=>
      rw [e6] at u;cases u;have z:=A7 (w:=w) E.P e3 (by simp)
      generalize hn:(Ac U.V ne).toNat=n at I;obtain ⟨e,he,J⟩:=Option.map_eq_some_iff.1 I;have L:=Sx e5.1 I;have ae:=(Id.1 he).1;have aa:=H.length;have M:∃N,(Ab U.V x).rows[n]?=some N:=⟨_,vx (by omega)⟩
      obtain ⟨N,A⟩:=M;obtain ⟨q1,q2,q3⟩:=H.get he A;have B:=Y.cells (Du c4);have vl:g.cells.toList.length=d.length:=by rw [←B.1];exact c5
      obtain ⟨u1,u2,O,u3,u4,u5,u6⟩:=GE _ _ _ _ _ N hy B (by rw [hn];exact A) (by omega)
      rw [hn] at u2 u3;obtain ⟨w3,w4⟩:=Ej c4 Y vl
      have Q:KV U.K ρ.imm c e.key O.cells:=by
       obtain ⟨lk,k1,k2,k3,k4⟩:=q2;refine ⟨lk,k1,k2,k3,fun j kd hj=>?_⟩
       have hlt:=(Id.1 hj).1;rw [u5 j (.inl hlt)];exact k4 j kd hj
      have R:KV U.K ρ.imm d g (O.cells.drop c.length):=by
       refine ⟨_,w3,vl,w4,fun j kd hj=>?_⟩
       have hlt:=(Id.1 hj).1;rw [Ho];exact u6 j kd (by omega) (by rw [Ts (by omega),Aeh];exact hj)
      have C:Bp U.K ρ.imm c d (p.modify n fun D=>{D with val:=g}) (Ab U.V y).rows:=by
       refine Bp.change (x:={key:=e.key,val:=g,born:=e.born}) (y:=O) (by rw [u4];exact q1) Q R n H (by simp) u1 (fun q S=>Kr S) (fun q S=>u2 q S) (fun _=>by rw [List.getElem?_modify_eq,he];rfl) (fun _=>u3)
      obtain ⟨p1,p2⟩:=T.setObj hb (by rw [Z];simp) (.dmap kt vt y) (.map (p.toArray.modify n fun D=>{D with val:=g}) a)
       ⟨c,d,_,a,l,o,by simp [List.modify_toArray],C,e5.modify (f:=fun D=>{D with val:=g}) (fun _=>rfl) n⟩
      refine ⟨_,?_,p1,p2⟩;simp only [Instr.entryStore,F9,z,E1,asInt,asIntOf,LE,L];rw [Bg (w:=w) E.P e3 (by simp)]
   ·cases i
  ·cases i
 ·cases i
theorem My (c:HR ρ h.blk.get w) {t:TypeId} {m s v:AV} {d f g:Value} {h':Aa} (i:VR ρ m d) (hs:VR ρ s f) (k:VR ρ v g) (a:GJ E t m s v h=some h') :
  ∃b,(Instr.entryStore t d f g).run E.P w=.ok () b∧HR ρ h'.blk.get b∧Ext ρ ρ h h' w b:=by
 unfold GJ at a;split at a
 ·exact MG hE c i hs k a
 ·exact MS c i hs k a
theorem To (i:HR ρ h.blk.get w) {t ty:TypeId} {m k:AV} {c d:Value} {h':Aa} (l:VR ρ m c) (o:VR ρ k d) (f:Qy E t m k h=some h') (a:Array TypeId) (g:a[0]?=some t) :
  ∃b,(Builtin.delete_ a ty #[c,d]).run E.P w=.ok (.tuple #[]) b∧HR ρ h'.blk.get b∧Ext ρ ρ h h' w b:=by unfold Qy at f;cases f
theorem S0 (f:HR ρ h.blk.get w) {t ty:TypeId} {m k:AV} {g i:Value} {h':Aa} (l:VR ρ m g) (o:VR ρ k i) (c:Qq E t m k h=some h') (a:Array TypeId) (b:a[0]?=some t) :
  ∃d,(Builtin.delete_ a ty #[g,i]).run E.P w=.ok (.tuple #[]) d∧HR ρ h'.blk.get d∧Ext ρ ρ h h' w d:=by
 unfold Qq at c;split at c
 ·rename_i q;cases c;exact TY hE f l o q a b
 ·exact To hE f l o c a b
theorem TT {h:Aa} (C:HR ρ h.blk.get w) {t:TypeId} {m k a:AV} {M x:Value} {ok:Bool} (D:VR ρ m M) (q:VR ρ k x) (c:Lv E t m k ok h=some a) :
  ∃v,(Instr.lookup t M x ok).run E.P w=.ok v w∧VR ρ a v:=by
 unfold Lv at c;split at c
 ·rename_i r F;cases c;exact Ur hE C D q F
 ·split at c
  ·rename_i r F;cases c;exact Uq hE C D q F
  split at c
  ·rename_i y Z r N _ _;split at c
   ·rename_i z es g l R S;obtain ⟨T,z1,z2⟩:=hE.run_zero ρ R w;have G:=AZ ρ z2;have u:∀H,(Instr.checkKey H 10000 y x).run E.P w=.ok () w:=fun H=>ED (w:=w) hE H 9980 20 y k x l q
    have d:∃A,E.desc y=some A:=by
     simp only [Co] at l;cases V:E.desc y with
     |none=>simp [V] at l
     |some A=>exact ⟨A,rfl⟩
    obtain ⟨A,d⟩:=d
    have fin:∀(v:AV) (b:Bool) (o:Value),VR ρ v o→VR ρ (Nr ok v b) (if ok then .tuple #[o,.bool b] else o):=by
     intro v b o O;cases ok with
     |true=>
      have:=VL.cons O (VL.cons (VR.bool (ρ:=ρ) b) (VL.nil ρ));exact .tuple _ [o,.bool b] this.1 this.2
     |false=>exact O
    cases D with
    |map _ base W=>
     obtain ⟨I,X,Q⟩:=C.blk r base _ W S;have f:(getObj base.cb).run E.P w=.ok (.map I.toArray g) w:=by simp [getObj,Sem.run,X]
     split at c
     ·rename_i i v J;cases c;obtain ⟨K,B,L⟩:=KJ (w:=w) hE d q Q J;cases K with
      |none=>cases B
      |some Y=>
       obtain ⟨j,o⟩:=Y;refine ⟨_,?_,fin v true o B.2⟩;simp [Instr.lookup,hE.run_und N,f,u,L]
     ·rename_i J;cases c;obtain ⟨K,B,L⟩:=KJ (w:=w) hE d q Q J;cases K with
      |some p=>cases B
      |none=>
       refine ⟨_,?_,fin z false T G⟩;simp [Instr.lookup,hE.run_und N,f,u,L,z1]
     ·cases c
   ·cases c
  ·cases c
end
end Go.AE
namespace Go.AE
variable [Gl:AC]
variable [U:Unk]
omit U in
theorem He:∀(l b:Nat),(C9 l b).length=l
 |0,_=>rfl
 |l+1,b=>by simp [C9,He l]
theorem OM {e:SE} (h:Qs e=true):(AT U.V e).data.toList.length<4611686018427387904:=by
 unfold Qs at h;split at h
 ·rename_i l b;have:=C8 h
  have e:(AT U.V (.strc l b)).data.toList.length=l:=by
   show ((C9 l b).toArray).toList.length=l;simp [He]
  omega
 ·have:=Ly h;rw [Ay,ll,CR] at this;have z:Ac U.V (.c 4611686018427387904)=4611686018427387904:=rfl;rw [z] at this;omega
section
variable {E:Env} (hE:OK E) {ρ:Ren} {h:Aa} {w:World}
omit U in
theorem kO [U:Unk] {t:TypeId} {s s':ByteArray} (h1:s.data.toList.length<4611686018427387904) (h2:s'.data.toList.length<4611686018427387904):(binOp .add t (.string s) (.string s')).run E.P w=.ok (.string (s++s')) w:=by
 have hsz:s.size=s.data.toList.length:=by simp
 have hsz':s'.size=s'.data.toList.length:=by simp
 have hmax:¬(((s.size+s'.size:Nat):Int)>IntKind.i64.max):=by
  simp only [IntKind.max,IntKind.signed,IntKind.bits];omega
 simp only [binOp,Op.stringOp];rw [if_neg hmax];rfl
theorem bC {d:BinOp} {t:TypeId} {ox g:Operand} {x y r:AV} {e f:Value} (i:VR ρ x e) (j:VR ρ y f) (c:jt d x y=some r) :
  ∃v,(do eqGuard d t ox g e f;binOp d t e f:Sem Value).run E.P w=.ok v w∧VR ρ r v:=by
 unfold jt at c;split at c
 ·split at c
  ·rename_i a b k m;split at c
   ·rename_i n;cases c;obtain ⟨c1,c2⟩:=Au n;rw [Hw i k,Hw j m];have o:(eqGuard .add t ox g (.string (AT U.V a)) (.string (AT U.V b))).run E.P w=.ok () w:=B2 (by simp) (fun h _=>by obtain ⟨p,h⟩:=h;cases h)
    refine ⟨.string (AT U.V a++AT U.V b),?_,.ss (.strCat a b)⟩;simp only [F9,o,E1];exact kO (OM c1) (OM c2)
   ·cases c
  ·cases c
 ·cases c
include hE
theorem Yz (k:HR ρ h.blk.get w) {t t' ty:TypeId} {d x a:AV} {e f:Value} {h':Aa} (i:VR ρ d e) (m:VR ρ x f) (g:Zs E t d x h=some (a,h')) (c:Array TypeId) (j:c[0]?=some t) :
  A4 E ρ h h' w (Builtin.copy_ c ty #[e,f]) a:=by unfold Zs at g;cases g
end
end Go.AE
namespace Go.AE
variable [Gl:AC]
variable [U:Unk]
section
variable {E:Env} (hE:OK E) {ρ:Ren} {h:Aa} {w:World}
theorem SM {s:Sem Unit} {c:String} {o:Option Aa} (d:∀h',o=some h'→∃a b,s.run E.P w=.ok () b∧HR a h'.blk.get b∧Ext ρ a h h' w b) :
  FH E ρ h w (do s;pure .skip) (Ew c o):=by
 cases o with
 |none=>trivial
 |some h'=>
  intro i;obtain ⟨a,b,e,f,g⟩:=d h' rfl;exact ⟨a,Go.undef,b,.inr ⟨by simp [e],rfl⟩,VR.undef a,f,g⟩
theorem L4 {s:Sem Value} {b:String} {o:Option Aa} (c:∀h',o=some h'→∃a,s.run E.P w=.ok (.tuple #[]) a∧HR ρ h'.blk.get a∧Ext ρ ρ h h' w a) :
  FH E ρ h w (do pure (.value (←s))) (Ew b o):=by
 cases o with
 |none=>trivial
 |some h'=>
  intro g;obtain ⟨a,d,e,f⟩:=c h' rfl;exact ⟨ρ,Go.undef,a,.inl (by simp [d,Go.undef]),VR.undef ρ,e,f⟩
theorem dh {c:Array TypeId} {ty:TypeId} {args:List AV} {b:List Value} {a:AV} (e:VL ρ args b) (d:Aax args=some a):∃v,(Builtin.max_ c ty b.toArray).run E.P w=.ok v w∧VR ρ a v:=by
 cases args with
 |nil=>cases d
 |cons x r=>
  obtain ⟨v,k,rfl,f,g⟩:=e.cons_inv;cases f<;>first | (cases d;done)|skip
  obtain ⟨u,i,j⟩:=Uu E.P w _ g d;exact ⟨u,by simpa [Builtin.max_] using i,j⟩
theorem cO {c:Array TypeId} {ty:TypeId} {args:List AV} {b:List Value} {a:AV} (e:VL ρ args b) (d:qX args=some a):∃v,(Builtin.min_ c ty b.toArray).run E.P w=.ok v w∧VR ρ a v:=by
 cases args with
 |nil=>cases d
 |cons x r=>
  obtain ⟨v,k,rfl,f,g⟩:=e.cons_inv;cases f<;>first | (cases d;done)|skip
  obtain ⟨u,i,j⟩:=Um E.P w _ g d;exact ⟨u,by simpa [Builtin.min_] using i,j⟩
include hE
theorem Xk (f:HR ρ h.blk.get w) {t ty:TypeId} {x:AV} {c:Value} {h':Aa} (g:VR ρ x c) (d:TO E t x h=some h') (a:Array TypeId) (e:a[0]?=some t) :
  ∃b,(Builtin.clear_ a ty #[c]).run E.P w=.ok (.tuple #[]) b∧HR ρ h'.blk.get b∧Ext ρ ρ h h' w b:=by unfold TO at d;cases d
theorem QY (p:HR ρ h.blk.get w) {b:Builtin} {ats:Array TypeId} {ty:TypeId} {consts:Array Bool} {args:List AV} {j:List Value} (n:VL ρ args j) :
  FH E ρ h w (builtin b ats ty consts j.toArray) (FI E b ats.toList args h):=by
 unfold FI;split
 ·rename_i t ts x C e;obtain ⟨v,r,rfl,g,o⟩:=n.cons_inv;have f:ats[0]?=some t:=by rw [←lv,e];rfl
  exact Be p fun a c=>cp hE p g c ats f _ (by simp)
 ·rename_i t t' s x e;obtain ⟨v,r,rfl,g,o⟩:=n.cons_inv;obtain ⟨A,B,rfl,i,l⟩:=o.cons_inv;have:=l.nil_inv;subst this;have q:ats = #[t,t']:=by cases ats;simp_all
  subst q;exact BD fun a h' c u=>PD hE p g i c u (fun a h' c u=>Mz hE p g i c u)
 ·rename_i t ts d x e;obtain ⟨v,r,rfl,g,o⟩:=n.cons_inv;obtain ⟨A,B,rfl,i,l⟩:=o.cons_inv;have:=l.nil_inv;subst this;have f:ats[0]?=some t:=by rw [←lv,e];rfl
  exact BD fun a h' c u=>Yz hE p (t':=t) g i c ats f
 ·rename_i t ts m k e;obtain ⟨v,r,rfl,g,o⟩:=n.cons_inv;obtain ⟨A,B,rfl,i,l⟩:=o.cons_inv;have:=l.nil_inv;subst this;have f:ats[0]?=some t:=by rw [←lv,e];rfl
  exact L4 fun h' c=>S0 hE p g i c ats f
 ·exact Be p fun a c=>by
   unfold orA at c;split at c
   ·rename_i y;cases c;exact dh n y
   ·exact XX n c
 ·exact Be p fun a c=>by
   unfold orA at c;split at c
   ·rename_i y;cases c;exact cO n y
   ·exact YM n c
 ·exact ⟨rfl,by simp [builtin]⟩
 ·obtain ⟨v,r,rfl,g,o⟩:=n.cons_inv;have:=o.nil_inv;subst this;have z:=g;cases g;exact ⟨rfl,_,z,by simp [builtin,Instr.panic]⟩
 ·rename_i t x e;obtain ⟨v,r,rfl,g,o⟩:=n.cons_inv;have:=o.nil_inv;subst this;have f:ats[0]?=some t:=by rw [←lv,e];rfl
  exact L4 fun h' c=>Xk hE p g c ats f
 ·trivial
theorem Wo (o:HR ρ h.blk.get w) {tmps:T AV} {g:Operand→Value} (j:EvR ρ tmps g) (c:Call) (ty:TypeId) :
  FH E ρ h w (do let d ←resolve g c ty;invoke d.target d.args) (Dr E tmps c h):=by
 have a:=j.list c.args.toList;have i:(c.args.map g)=(c.args.toList.map g).toArray:=by apply Array.ext';simp
 unfold Dr;cases p:c.callee with
 |builtin b=>
  have e:∃cs,(do let d ←resolve g c ty;invoke d.target d.args)=builtin b c.argTypes ty cs (c.args.toList.map g).toArray:=
   ⟨_,by simp only [resolve,p,pure_bind,invoke,i];rfl⟩
  obtain ⟨cs,e⟩:=e;rw [e];exact QY (w:=w) hE o (b:=b) (ats:=c.argTypes) (ty:=ty) (consts:=cs) a
 |invoke r name=>
  have:=Ei (w:=w) hE o (fn:=.method name) (fn':=.method name) (captured:=[]) (captured':=[]) rfl (VL.nil ρ) (VL.cons (j r) a)
  have e:(do let d ←resolve g c ty;invoke d.target d.args)=invoke (.fn (.method name) #[]) (g r::c.args.toList.map g).toArray:=by
   simp only [resolve,p,pure_bind,i]
   congr 1
   simp
  rw [e];exact this
 |value f=>
  simp only [];have m:=j f;cases t:Ak tmps f with
  |func fn first captured=>
   rw [t] at m;cases k:g f with
   |func fn' n captured'=>
    rw [k] at m;cases m with
    |func _ _ _ _ q s u v x y z=>
     have:=Ei (w:=w) hE o u (captured:=captured) (captured':=s) ⟨y,z⟩ (VL.append (l:=first) (l':=q) ⟨v,x⟩ a)
     have e:(do let d ←resolve g c ty;invoke d.target d.args)=invoke (.fn fn' s.toArray) (q++c.args.toList.map g).toArray:=by
      simp only [resolve,p,k,Deferred.ofValue,pure_bind,i]
      congr 1
      simp
     rw [e];exact this
   |_=>rw [k] at m;cases m
  |_=>trivial
omit hE in
theorem SL {tmps:T AV} {ev:Operand→Value} (hev:EvR ρ tmps ev) (c:Call) (ty:TypeId) :
  FH E ρ h w (do pure (.defer (←resolve ev c ty))) (Hf tmps c h):=by
 have hargs:=hev.list c.args.toList;have hmap:(c.args.map ev)=(c.args.toList.map ev).toArray:=by apply Array.ext';simp
 unfold Hf;cases hc:c.callee with
 |value f=>
  simp only [];have hf:=hev f;cases hv:Ak tmps f with
  |func fn first captured=>
   rw [hv] at hf;cases hvf:ev f with
   |func fn' first' captured'=>
    rw [hvf] at hf;cases hf with
    |func _ _ _ _ f' c' q1 q2 q3 q4 q5=>
     refine ⟨rfl,{target:=.fn fn' c'.toArray,args:=(f'++c.args.toList.map ev).toArray},?_,?_⟩
     ·exact ⟨fn',c',f'++c.args.toList.map ev,q1,⟨q4,q5⟩,VL.append (l:=first) (l':=f') ⟨q2,q3⟩ hargs,rfl⟩
     ·simp [resolve,hc,hvf,Deferred.ofValue,hmap]
   |_=>rw [hvf] at hf;cases hf
  |_=>trivial
 |_=>trivial
end
end Go.AE
namespace Go.AE
variable [Gl:AC]
variable [U:Unk]
section
variable {E:Env} (hE:OK E) {ρ:Ren} {h:Aa} {w:World}
include hE
omit hE in
theorem BS (hr:HR ρ h.blk.get w) {s:Sem Next} {a:AV} {v:Value} (hs:s.run E.P w=.ok (.value v) w) (hv:VR ρ a v):FH E ρ h w s (.val a h):=
 fun _=>⟨ρ,v,w,.inl hs,hv,hr,Ext.refl ρ h w⟩
omit hE in
theorem Iq {tmps:T AV} {ev:Operand→Value} (hev:EvR ρ tmps ev) (o:Option Operand):(∀a,A5 tmps o=some a→∃v,o.map ev=some v∧VR ρ a v)∧(A5 tmps o=none→o.map ev=none):=by
 cases o with
 |none=>exact ⟨(fun a h=>by cases h),fun _=>rfl⟩
 |some x=>exact ⟨fun a h=>by simp only [A5,C2] at h;subst h;exact ⟨ev x,rfl,hev x⟩,(fun h=>by cases h)⟩
theorem zW {t:TypeId} {b:Array (String×TypeId)} (c:E.desc t=some (.interface b)) (d:Nat):(Op.equalIn (d+1) t .nilIface .nilIface).run E.P w=.ok true w:=by
 simp [Op.equalIn,hE.run_und c]
theorem Ii (hr:HR ρ h.blk.get w) {tmps:T AV} {ev:Operand→Value} (hev:EvR ρ tmps ev) (o:Oper):FH E ρ h w (execOp ev o) (aop E tmps h o.op):=by
 unfold execOp aop;cases ae:o.op with
 |move x=>exact BS hr (by simp) (hev x)
 |assign x=>exact BS hr (by simp) (hev x)
 |pick c a b=>
  simp only [];have u:=hev c;cases hv:Ak tmps c with
  |bool t=>
   rw [hv] at u;cases B:ev c with
   |bool t'=>
    rw [B] at u;cases u;cases t with
    |true=>exact BS hr (by simp [asBool]) (hev a)
    |false=>exact BS hr (by simp [asBool]) (hev b)
   |_=>rw [B] at u;cases u
  |sb pos e=>
   rw [hv] at u;simp only [];split
   ·rename_i q g;have F:=Av U.ok g;cases B:ev c with
    |bool t'=>
     rw [B] at u;cases u;rw [F];split
     ·rename_i H;rw [H];exact BS hr (by simp [asBool]) (hev a)
     ·rename_i H;rw [H];exact BS hr (by simp [asBool]) (hev b)
    |_=>rw [B] at u;cases u
   ·trivial
  |_=>trivial
 |alloc t=>
  simp only [];cases hz:E.zero t with
  |none=>trivial
  |some z=>
   intro p;obtain ⟨W,v,X,A,G,I,J⟩:=XI hE hr (p h.nx (IqQ _) (by simp [Bx,Aa.new])) hz
   exact ⟨W,v,X,.inl (by simp [A]),G,I,J⟩
 |box t x=>
  simp only [];cases ht:(Ak tmps x).isTop with
  |true=>trivial
  |false=>
   intro p;obtain ⟨W,v,X,A,G,I,J⟩:=ga (E:=E) (t:=t) hr (p h.nx (IqQ _) (by simp [Bx,Aa.new])) (hev x) (by rintro e;rw [e] at ht;cases ht)
   exact ⟨W,v,X,.inl (by simp [A]),G,I,J⟩
 |build t K=>
  have H:=hev.parts K.toList;have C:(K.map fun (i,x)=>(i,ev x))=(K.toList.map fun (i,x)=>(i,ev x)).toArray:=by apply Array.ext';simp
  simp only [C];exact Be hr fun a g=>WT hE H g
 |buildSlice t len K=>
  have H:=hev.parts K.toList;have C:(K.map fun (i,x)=>(i,ev x))=(K.toList.map fun (i,x)=>(i,ev x)).toArray:=by apply Array.ext';simp
  simp only [C];exact BD fun a h' g p=>LP hE hr H g p
 |load t a=>exact Be hr fun x g=>XZ hE hr (hev a) g
 |store t a x=>exact SM fun h' g=>RD hE hr (hev a) (hev x) g
 |nilCheck x=>
  simp only [];have n:=hev x;cases hv:Ak tmps x<;>try trivial
  all_goals (rw [hv] at n)
  ·cases j:ev x<;>rw [j] at n<;>cases n
   exact BS hr rfl (.ptr _ _ _ (by assumption))
  ·rename_i fn f c;cases fn<;>try trivial
   ·cases j:ev x with
    |func Y Z c'=>
     rw [j] at n;cases n with
     |func _ _ _ _ Z c' A G I J q5=>
      have L:=A;simp only [FnR] at A;subst A;exact BS hr rfl (.func _ _ _ _ _ _ L G I J q5)
    |_=>rw [j] at n;cases n
   ·cases j:ev x with
    |func Y Z c'=>
     rw [j] at n;cases n with
     |func _ _ _ _ Z c' A G I J q5=>
      have L:=A;obtain ⟨base,hb,rfl⟩:=A;exact BS hr rfl (.func _ _ _ _ _ _ L G I J q5)
    |_=>rw [j] at n;cases n
  ·cases j:ev x<;>rw [j] at n<;>cases n
   exact BS hr rfl (.iface _ _ _ (by assumption))
  ·cases j:ev x<;>rw [j] at n<;>cases n
   exact BS hr rfl (.aptr _ _ _ _ _ (by assumption) (by assumption))
 |binOp N t x y ty=>
  refine Be hr fun a g=>?_
  unfold jF at g;cases O:((Ak tmps x).isSym||(Ak tmps y).isSym) with
  |true=>
   rw [O] at g;simp only [] at g;split at g
   ·rename_i r D;cases g;exact iU hE (hev x) (hev y) D
   ·split at g
    ·rename_i r D;cases g;exact bC (hev x) (hev y) D
    ·exact aW (hev x) (hev y) g
  |false=>
  rw [O] at g;simp only [] at g;cases hn:((Ak tmps x).isNil&&(Ak tmps y).isNil) with
  |false=>
   rw [hn] at g;simp only [] at g;split at g
   ·rename_i r D;cases g;exact Wc hE (hev x) (hev y) D
   ·exact X1 hE (hev x) (hev y) g
  |true=>
   rw [hn] at g;simp only [] at g;obtain ⟨n1,n2⟩:=Au hn
   have e1:Ak tmps x=.nilIface:=by
    generalize Ak tmps x=a at n1;cases a<;>first|rfl|cases n1
   have e2:Ak tmps y=.nilIface:=by
    generalize Ak tmps y=a at n2;cases a<;>first|rfl|cases n2
   have v1:=hev x;have v2:=hev y;rw [e1] at v1;rw [e2] at v2;generalize n:ev x=xv at v1;generalize hy:ev y=yv at v2;cases v1;cases v2;cases u:(Region.isConst x||Region.isConst y) with
   |false=>rw [u] at g;cases g
   |true=>
    rw [u] at g;cases F:E.desc t with
    |none=>rw [F] at g;cases g
    |some d=>
     rw [F] at g;cases d<;>first | (cases g;done)|skip
     have hu:=hE.run_und F w
     have hg:(eqGuard N t x y .nilIface .nilIface).run E.P w=.ok () w:=by
      unfold eqGuard;rcases orF u with q|q
      ·cases x<;>simp only [Region.isConst,ei] at q
       cases N<;>simp
      ·cases y<;>simp only [Region.isConst,ei] at q
       cases N<;>cases x<;>simp
     have Q:(Op.equal t .nilIface .nilIface).run E.P w=.ok true w:=zW hE F 9999;have aa:binOp .eql t .nilIface .nilIface=(do pure (.bool (←Op.equal t .nilIface .nilIface))):=rfl
     have ab:binOp .neq t .nilIface .nilIface=(do pure (.bool (!(←Op.equal t .nilIface .nilIface)))):=rfl
     cases N<;>first | (cases g;done)|skip
     ·simp only [C2] at g;subst g;exact ⟨.bool true,by rw [aa];simp only [F9,hg,E1,Q,LE],.bool _⟩
     ·simp only [C2] at g;subst g;exact ⟨.bool false,by rw [ab];simp only [F9,hg,E1,Q,LE,Bool.not_true],.bool _⟩
 |unOp N t x=>exact Be hr fun a g=>jj (hev x) g
 |convert s d x=>exact BD fun a h' g p=>ah hE hr (hev x) g p
 |makeInterface t x=>
  simp only [];cases F:E.desc t with
  |none=>trivial
  |some d=>
   cases d<;>first|trivial|exact BS hr (by simp [Instr.makeInterface,hE.run_und F]) (.iface t _ _ (hev x))
 |makeFunc fn first captured=>
  have S:=hev.list first.toList;have V:=hev.list captured.toList;have e1:first.map ev=(first.toList.map ev).toArray:=by apply Array.ext';simp
  have e2:captured.map ev=(captured.toList.map ev).toArray:=by apply Array.ext';simp
  cases fn with
  |yield l=>trivial
  |_=>exact BS hr (by simp only [Instr.makeFunc,F9,LE,E1,e1,e2]) (.func _ _ _ _ _ _ rfl S.1 S.2 V.1 V.2)
 |makeMap t r=>
  have mk:∀{s:Sem Next},s.run E.P w=.ok (.value (.map (some w.heap.size))) {w with heap:=w.heap.push (.map #[] 0)}→FH E ρ h w s (.val (.map h.nx) (h.new (.map [] 0))):=by
   intro s hs p;have M:ρ h.nx=none:=p h.nx (IqQ _) (by simp [Aa.new])
   obtain ⟨p1,p2⟩:=hr.new M (.map [] 0) (.map #[] 0) 0 ⟨[],rfl,trivial⟩ {w with heap:=w.heap.push (.map #[] 0)} rfl rfl rfl rfl
   exact ⟨_,_,_,.inl hs,.map h.nx _ (Ren.upd_same _ _ _),p1,p2⟩
  cases r with
  |none=>exact mk (by simp [Instr.makeMap])
  |some r=>
   simp only [];have n:=hev r;cases F:E.desc t with
   |none=>trivial
   |some d=>
    cases d<;>try trivial
    cases hv:Ak tmps r<;>try trivial
    rw [hv] at n;cases j:ev r<;>rw [j] at n<;>cases n
    exact mk (by simp [Instr.makeMap,j,hE.run_und F,asInt,asIntOf])
 |makeSlice t l c=>exact BD fun a h' g p=>Nm hE hr (hev l) (hev c) g p
 |slice t x lo hi R=>
  refine BD fun a h' g p=>?_
  obtain ⟨a1,a2⟩:=Iq hev lo;obtain ⟨b1,b2⟩:=Iq hev hi;obtain ⟨c1,c2⟩:=Iq hev R
  have ac:A5 tmps R≠none→A5 tmps hi≠none:=by
   cases R with
   |none=>intro q;exact absurd rfl q
   |some m=>cases hi with
    |none=>cases g
    |some i=>intro _ q;cases q
  have ad:sliceB E t (Ak tmps x) (A5 tmps lo) (A5 tmps hi) (A5 tmps R) h=some (a,h'):=by
   cases R<;>cases hi<;>first|exact g|cases g
  exact Xi hE hr (hev x) a1 a2 b1 b2 c1 c2 ac ad
 |fieldAddr t x f=>exact Be hr fun a g=>Ny hE (hev x) g
 |field t x f=>exact Be hr fun a g=>Xm hE (hev x) g
 |indexAddr t x i=>exact Be hr fun a g=>Ns hE (hev x) (hev i) g
 |index t x i=>exact Be hr fun a g=>Ws hE (hev x) (hev i) g
 |lookup t m k ok=>exact Be hr fun a g=>TT hE hr (hev m) (hev k) g
 |mapUpdate t m k v=>exact Km fun h' g=>SW hE hr (hev m) (hev k) (hev v) g
 |insert t m k v=>exact Km fun h' g=>It hE hr (hev m) (hev k) (hev v) g
 |mapEntry t m k=>exact BD fun a h' g p=>WD hE hr (hev m) (hev k) g p
 |entryStore t m s v=>exact Km fun h' g=>My hE hr (hev m) (hev s) (hev v) g
 |range t x=>exact BD fun a h' g p=>Xo hE hr (hev x) g p
 |next it af=>exact BD fun a h' g p=>Xz hr (hev it) g
 |entry it=>exact Be hr fun a g=>Nz hr (hev it) g
 |typeAssert x xt t ok=>exact Be hr fun a g=>UF hE (hev x) g
 |extract t i=>
  simp only [];have n:=hev t;cases hv:Ak tmps t<;>try trivial
  rw [hv] at n;cases j:ev t<;>rw [j] at n<;>cases n
  rename_i l l' S V;refine Be hr fun a g=>?_
  obtain ⟨v,A,G⟩:=VL.get (l:=l) (l':=l') ⟨S,V⟩ g;exact ⟨v,by simp [Instr.extract,A],G⟩
 |call c=>exact Wo hE hr hev c o.type
 |defer c=>exact SL hev c o.type
 |panic x=>
  simp only [];have n:=hev x;cases hv:Ak tmps x<;>try trivial
  rw [hv] at n;cases j:ev x<;>rw [j] at n<;>cases n
  exact ⟨rfl,_,.iface _ _ _ (by assumption),by simp [Instr.panic]⟩
 |_=>trivial
end
end Go.AE
namespace Go.AE
variable [Gl:AC]
variable [U:Unk]
section
variable {P:Program} {fr:Frame} {k:List Item} {cs:List Frame} {w:World}
theorem lB {a b:Code} (c:fr.mode=.run) (d:fr.todo=.code (.seq a b)::k):step P (lone fr cs w)=.next (lone {fr with todo:=.code a::.code b::k} cs w):=
 step_lone_go (by cases fr;simp only at c d;subst c;subst d;simp [stepG,stepG.exec])
theorem aF (a:fr.mode=.run) (b:fr.todo=.code .skip::k):step P (lone fr cs w)=.next (lone {fr with todo:=k} cs w):=
 step_lone_go (by cases fr;simp only at a b;subst a;subst b;simp [stepG,stepG.exec])
theorem XD {l:Nat} (a:fr.mode=.run) (b:fr.todo=.code (.label l)::k):step P (lone fr cs w)=.next (lone {fr with todo:=k} cs w):=
 step_lone_go (by cases fr;simp only at a b;subst a;subst b;simp [stepG,stepG.exec])
theorem UC {l:Nat} (a:fr.mode=.run) (b:fr.todo=.inBlock l::k):step P (lone fr cs w)=.next (lone {fr with todo:=k} cs w):=
 step_lone_go (by cases fr;simp only at a b;subst a;subst b;simp [stepG,stepG.exec])
theorem Uj {l:Code} (a:fr.mode=.run) (b:fr.todo=.inScope l::k):step P (lone fr cs w)=.next (lone {fr with todo:=k} cs w):=
 step_lone_go (by cases fr;simp only at a b;subst a;subst b;simp [stepG,stepG.exec])
theorem Lj {c:Operand} {x y:Code} {b:Bool} (a:fr.mode=.run) (d:fr.todo=.code (.cond c x y)::k) (e:fr.eval c=.bool b):step P (lone fr cs w)=.next (lone {fr with todo:=.code (if b then x else y)::k} cs w):=
 step_lone_go (by cases fr;simp only at a d;subst a;subst d;simp [stepG,stepG.exec,e])
theorem Zv {id:Nat} {c:Code} (a:fr.mode=.run) (b:fr.todo=.code (.block id c)::k):step P (lone fr cs w)=.next (lone {fr with todo:=.code c::.inBlock id::k} cs w):=
 step_lone_go (by cases fr;simp only at a b;subst a;subst b;simp [stepG,stepG.exec])
theorem ca {c:Code} (a:fr.mode=.run) (b:fr.todo=.code (.loop c)::k):step P (lone fr cs w)=.next (lone {fr with todo:=.code c::.inLoop c::k} cs w):=
 step_lone_go (by cases fr;simp only at a b;subst a;subst b;simp [stepG,stepG.exec])
theorem Wj {c:Code} (a:fr.mode=.run) (b:fr.todo=.inLoop c::k):step P (lone fr cs w)=.next (lone {fr with todo:=.code c::.inLoop c::k} cs w):=
 step_lone_go (by cases fr;simp only at a b;subst a;subst b;simp [stepG,stepG.exec])
theorem Y9 {c:Code} (a:fr.mode=.run) (b:fr.todo=.code (.scope c)::k):step P (lone fr cs w)=.next (lone {fr with todo:=.code c::.inScope c::k} cs w):=
 step_lone_go (by cases fr;simp only at a b;subst a;subst b;simp [stepG,stepG.exec])
theorem WC {id:Nat} {ops:Array Oper} (a:fr.mode=.run) (b:fr.todo=.code (.region id ops false)::k):step P (lone fr cs w)=.next (lone {fr with todo:=.inRegion ops (List.range ops.size)::k} cs w):=
 step_lone_go (by cases fr;simp only at a b;subst a;subst b;simp [stepG,stepG.exec])
theorem br {id:Nat} {ops:Array Oper} (a:fr.mode=.run) (b:fr.todo=.code (.region id ops true)::k) :
  step P (lone fr cs w)=.next (lone {fr with todo:=.inRegion ops (Region.schedule (P.follows .mixedOrders) ops (w.tape w.drawn (.order fr.fn id)))::k} cs {w with drawn:=w.drawn+1}):=
 step_lone_go (by cases fr;simp only at a b;subst a;subst b;simp [stepG,stepG.exec,choose,Sem.run,Question.forced,Question.cut])
theorem JE {ops:Array Oper} (a:fr.mode=.run) (b:fr.todo=.inRegion ops []::k):step P (lone fr cs w)=.next (lone {fr with todo:=k} cs w):=
 step_lone_go (by cases fr;simp only at a b;subst a;subst b;simp [stepG,stepG.exec])
theorem bO {id:Nat} {a:List Item} (b:fr.mode=.run) (c:fr.todo=.code (.exit id)::k) (d:exitTo id k=some a):step P (lone fr cs w)=.next (lone {fr with todo:=a} cs w):=
 step_lone_go (by cases fr;simp only at b c;subst b;subst c;simp [stepG,stepG.exec,d])
theorem bI {l:Nat} {a:List Item} (b:fr.mode=.run) (c:fr.todo=.code (.goto l)::k) (d:gotoIn l k=some a):step P (lone fr cs w)=.next (lone {fr with todo:=a} cs w):=
 step_lone_go (by cases fr;simp only at b c;subst b;subst c;simp [stepG,stepG.exec,d])
theorem jK (b:fr.mode=.run) (a:fr.todo=[]∨∃k,fr.todo=.code .ret::k) (c:fr.roundOf=none):step P (lone fr cs w)=.next (lone {fr with mode:=.returning} cs w):=by
 rcases a with a|⟨k,a⟩<;>
 exact step_lone_go (by cases fr;simp only at b a c;subst b;subst a;subst c;simp [stepG,stepG.exec])
theorem Ru {l:Nat} {a:Option Code} {c:Frame} {d:World} {v:Value} (e:fr.mode=.run) (f:fr.roundOf=some l) (g:fr.kind=.normal)
  (b:(fr.todo=[]∧a=none)∨(∃k,fr.todo=.code .ret::k∧a=some .ret)∨(∃id k,fr.todo=.code (.exit id)::k∧exitTo id k=none∧a=some (.exit id))∨(∃l k,fr.todo=.code (.goto l)::k∧gotoIn l k=none∧a=some (.goto l)))
  (h:(Instr.endRound l a).run P w=.ok v d):step P (lone fr (c::cs) w)=.next (lone (c.finish v) cs d):=by
 rcases b with ⟨b,rfl⟩|⟨k,b,rfl⟩|⟨id,k,b,i,rfl⟩|⟨j,k,b,i,rfl⟩<;>
 exact step_lone_go (by cases fr;simp only at e b f g;subst e;subst b;subst f;subst g;simp [stepG,stepG.exec,Sem.runT_eq,doReturn, *])
theorem Ow {ops:Array Oper} {i:Nat} {rest:List Nat} {o:Oper} (a:fr.mode=.run) (b:fr.todo=.inRegion ops (i::rest)::k) (d:ops[i]?=some o) (c:Region.wanted o (yielded ops fr.tmps)=false) :
  step P (lone fr cs w)=.next (lone (fr.finish undef) cs w):=
 step_lone_go (by cases fr;simp only at a b;subst a;subst b;simp at c;simp [stepG,stepG.exec,d,c])
theorem FC {ops:Array Oper} {i:Nat} {rest:List Nat} {o:Oper} (e:fr.mode=.run) (f:fr.todo=.inRegion ops (i::rest)::k) (g:ops[i]?=some o) (b:Region.wanted o (yielded ops fr.tmps)=true)
  (a:fr.roundOf=none∨∀c,o.op≠.defer c) :
  stepG P true {frame:=fr,callers:=cs,status:=.running,dying:=none} w=stepG.apply P true fr cs none (execOp fr.eval o) w:=by
 cases fr;simp only at e f a;subst e;subst f;simp at b;rcases a with a|a
 ·subst a;simp [stepG,stepG.exec,stepG.oper,Frame.oper?,g,b]
 ·simp only [stepG,stepG.exec,g,pl,b,Aen,if_true,stepG.oper,Frame.oper?];split
  ·rename_i c d;exact absurd d (a c)
  ·rfl
theorem UH {ops:Array Oper} {i:Nat} {rest:List Nat} {o:Oper} {b:World} {v:Value} (d:fr.mode=.run) (e:fr.todo=.inRegion ops (i::rest)::k) (f:ops[i]?=some o) (g:Region.wanted o (yielded ops fr.tmps)=true)
  (h:fr.roundOf=none∨∀c,o.op≠.defer c) (a:(execOp fr.eval o).run P w=.ok (.value v) b∨((execOp fr.eval o).run P w=.ok .skip b∧v=undef)) :
  step P (lone fr cs w)=.next (lone (fr.finish v) cs b):=by
 refine step_lone_go ?_;rw [FC d e f g h];rcases a with a|⟨a,rfl⟩<;>simp [stepG.apply,a]
theorem MD {ops:Array Oper} {i:Nat} {rest:List Nat} {o:Oper} {f:FuncId} {args:Array Value} {b:World} (e:fr.mode=.run) (d:fr.todo=.inRegion ops (i::rest)::k) (g:ops[i]?=some o) (h:Region.wanted o (yielded ops fr.tmps)=true)
  (j:fr.roundOf=none∨∀c,o.op≠.defer c) (a:(execOp fr.eval o).run P w=.ok (.enter f args) b):step P (lone fr cs w)=.next (lone (Frame.enter P f args .normal) (fr::cs) b):=by
 refine step_lone_go ?_;rw [FC e d g h j];simp [stepG.apply,a,d]
theorem Z9 {ops:Array Oper} {i:Nat} {rest:List Nat} {o:Oper} {l:Nat} {f:FuncId} {tmps:Array Value} {assign body:Code} {b:World} (d:fr.mode=.run) (e:fr.todo=.inRegion ops (i::rest)::k) (g:ops[i]?=some o) (h:Region.wanted o (yielded ops fr.tmps)=true)
  (j:fr.roundOf=none∨∀c,o.op≠.defer c) (a:(execOp fr.eval o).run P w=.ok (.round l f tmps assign body) b):step P (lone fr cs w)=.next (lone (Frame.round l f tmps assign body .normal) (fr::cs) b):=by
 refine step_lone_go ?_;rw [FC d e g h j];simp [stepG.apply,a]
theorem ZS {ops:Array Oper} {i:Nat} {rest:List Nat} {o:Oper} {v:Value} {b:World} (d:fr.mode=.run) (e:fr.todo=.inRegion ops (i::rest)::k) (f:ops[i]?=some o) (g:Region.wanted o (yielded ops fr.tmps)=true)
  (h:fr.roundOf=none∨∀c,o.op≠.defer c) (a:(execOp fr.eval o).run P w=.halt (.panic v) b):step P (lone fr cs w)=.next (lone {fr with mode:=.panicking [{v,recovered:=false}]} cs b):=by
 refine step_lone_go ?_;rw [FC d e f g h];simp [stepG.apply,a,Frame.raise,d]
theorem Nx {l:Nat} {b:World} (c:fr.mode=.run) (d:fr.todo=.beginRound::k) (e:fr.roundOf=some l) (a:(Instr.beginRound l).run P w=.ok () b) :
  step P (lone fr cs w)=.next (lone {fr with todo:=k} cs b):=by
 refine step_lone_go ?_;cases fr;simp only at c d e;subst c;subst d;subst e;simp [stepG,stepG.exec,stepG.apply,a,Frame.finish]
theorem TU {l:Nat} {c:World} {a:Option Code} (d:fr.mode=.run) (e:fr.todo=.endRangeFunc l::k) (b:(Instr.endLoop l).run P w=.ok a c) :
  step P (lone fr cs w)=.next (lone {fr with todo:=(a.map Item.code).toList++k} cs c):=by
 refine step_lone_go ?_;cases fr;simp only at d e;subst d;subst e;simp [stepG,stepG.exec,Sem.runT_eq,b]
theorem KZ {f:Operand} {params:Array Tmp} {assign body:Code} {l:Nat} {mark:List Deferred} {b:World} (c:fr.mode=.run) (e:fr.todo=.code (.rangeFunc f params assign body)::k)
  (a:(Instr.enterLoop fr.fn fr.tmps params assign body fr.roundOf).run P w=.ok (l,mark) b) :
  (stepG P true {frame:=fr,callers:=cs,status:=.running,dying:=none} w).bare =
  (stepG.apply P true {fr with todo:=.inRangeFunc l::k,defers:=mark++fr.defers} cs none (do let d ←resolve fr.eval {callee:=.value f,args:=#[.const (.func (.yield l) #[] #[])],argTypes:=#[]} 0;invoke d.target d.args) b).bare:=by
 cases fr;simp only at c e a;subst c;subst e;simp only [stepG,stepG.exec,Sem.runT_eq,a,GStep.bare_after]
 congr 2
theorem bw {d:Deferred} {i:List Deferred} {f:FuncId} {args:Array Value} {j:World} (l:fr.mode≠.run) (m:fr.defers=d::i) (e:∀b,d.target≠.collected b) (g:d.target≠.nil)
  (a:(invoke d.target d.args).run P w=.ok (.enter f args) j):step P (lone fr cs w)=.next (lone (Frame.enter P f args .deferred) ({fr with defers:=i}::cs) j):=by
 refine step_lone_go ?_;cases fr with|mk fn tmps todo defers mode kind c=>
 cases d with|mk target h=>
 simp only at l m e g a;subst m;cases mode with
 |run=>exact absurd rfl l
 |returning=>cases target<;>first|exact absurd rfl g|exact absurd rfl (e _)|simp [stepG,unwind,callDeferred,Sem.runT_eq,a]
 |panicking n=>cases target<;>first|exact absurd rfl g|exact absurd rfl (e _)|simp [stepG,unwind,callDeferred,Sem.runT_eq,a]
theorem Yn {b:Nat} {args:Array Value} {d l:List Deferred} {e:World} (f:fr.mode≠.run) (g:fr.defers={target:=.collected b,args}::d)
  (a:(Instr.takeDeferred b).run P w=.ok l e):step P (lone fr cs w)=.next (lone {fr with defers:=l++d} cs e):=by
 refine step_lone_go ?_;cases fr with|mk fn tmps todo defers mode kind c=>
 simp only at f g;subst g;cases mode with
 |run=>exact absurd rfl f
 |returning=>simp [stepG,unwind,Sem.runT_eq,a]
 |panicking h=>simp [stepG,unwind,Sem.runT_eq,a]
end
end Go.AE
namespace Go.AE
variable [Gl:AC]
section
variable [U:Vals]
inductive IR (ρ:Ren):AI→Item→Prop
 |code (c:Code):IR ρ (.code c) (.code c)
 |inBlock (id:Nat):IR ρ (.inBlock id) (.inBlock id)
 |inLoop (b:Code):IR ρ (.inLoop b) (.inLoop b)
 |inScope (b:Code):IR ρ (.inScope b) (.inScope b)
 |ops (all:Array Oper) (rest:List Oper) (idx:List Nat) (h:rest.map some=idx.map fun i=>all[i]?):IR ρ (.ops all rest) (.inRegion all idx)
 |inRange (l:Nat) (base:Cr) (h:ρ l=some base):IR ρ (.inRange l) (.inRangeFunc base.cb)
 |endRange (l:Nat) (base:Cr) (h:ρ l=some base):IR ρ (.endRange l) (.endRangeFunc base.cb)
 |beginRound:IR ρ .beginRound .beginRound
 |dead (all:Array Oper) (idx:List Nat):IR ρ .dead (.inRegion all idx)
inductive IL (ρ:Ren):List AI→List Item→Prop
 |nil:IL ρ [] []
 |cons {a:AI} {x:Item} {l:List AI} {l':List Item} (h:IR ρ a x) (k:IL ρ l l'):IL ρ (a::l) (x::l')
 |rest:IL ρ [.rest] U.R
def CL (b:Ren):List (AV×Bool)→List PanicEntry→Prop
 |[],[]=>True
 |a::r,e::c=>VR b a.1 e.v∧e.recovered=a.2∧e.goexit=false∧CL b r c
 |_,_=>False
inductive MR (ρ:Ren):HJ→FrameMode→Prop
 |run:MR ρ .run .run
 |ret:MR ρ .ret .returning
 |panic (ch:List (AV×Bool)) (ch':List PanicEntry) (h:CL ρ ch ch'):MR ρ (.panic ch) (.panicking ch')
def RR (ρ:Ren):Option Nat→Option Nat→Prop
 |none,none=>True
 |some l,some c=>∃base,ρ l=some base∧c=base.cb
 |_,_=>False
structure FrR (ρ:Ren) (f:AF) (c:Frame):Prop where
 fn:c.fn=f.fn
 tm:TR ρ f.nt f.tmps c.tmps
 todo:IL ρ f.todo c.todo
 defers:DL ρ f.defers c.defers
 mode:MR ρ f.mode c.mode
 kind:c.kind=f.kind
 round:RR ρ f.round c.roundOf
inductive FrL (ρ:Ren):List AF→List Frame→Prop
 |nil:FrL ρ [] []
 |cons {f:AF} {c:Frame} {l:List AF} {l':List Frame} (h:FrR ρ f c) (k:FrL ρ l l'):FrL ρ (f::l) (c::l')
theorem IR.mono {ρ I:Ren} (t:ρ.le I) {a:AI} {x:Item} (h:IR ρ a x):IR I a x:=by
 cases h with
 |code c=>exact .code c
 |inBlock id=>exact .inBlock id
 |inLoop b=>exact .inLoop b
 |inScope b=>exact .inScope b
 |ops all rest r h=>exact .ops all rest r h
 |inRange l base h=>exact .inRange l base (t.m _ _ h)
 |endRange l base h=>exact .endRange l base (t.m _ _ h)
 |beginRound=>exact .beginRound
 |dead all r=>exact .dead all r
theorem IL.mono {ρ r:Ren} (l:ρ.le r) {a:List AI} {x:List Item} (h:IL ρ a x):IL r a x:=by
 induction h with
 |nil=>exact .nil
 |cons h _ ih=>exact .cons (h.mono l) ih
 |rest=>exact .rest
theorem CL.mono {ρ t:Ren} (r:ρ.le t):∀{l:List (AV×Bool)} {I:List PanicEntry},CL ρ l I→CL t l I
 |[],[],_=>trivial
 |_::_,_::_,⟨J,h2,h3,h4⟩=>⟨J.mono r,h2,h3,h4.mono r⟩
theorem MR.mono {ρ t:Ren} (l:ρ.le t) {a:HJ} {x:FrameMode} (h:MR ρ a x):MR t a x:=by
 cases h with
 |run=>exact .run
 |ret=>exact .ret
 |panic I r h=>exact .panic I r (h.mono l)
theorem RR.mono {ρ r:Ren} (l:ρ.le r) {a x:Option Nat} (h:RR ρ a x):RR r a x:=by
 cases a<;>cases x<;>simp only [RR] at h ⊢
 obtain ⟨base,t,I⟩:=h;exact ⟨base,l.m _ _ t,I⟩
theorem FrR.mono {ρ r:Ren} (l:ρ.le r) {f:AF} {c:Frame} (h:FrR ρ f c):FrR r f c:=
 ⟨h.fn,h.tm.mono l,h.todo.mono l,h.defers.mono l,h.mode.mono l,h.kind,h.round.mono l⟩
theorem FrL.mono {ρ r:Ren} (l:ρ.le r) {f:List AF} {c:List Frame} (h:FrL ρ f c):FrL r f c:=by
 induction h with
 |nil=>exact .nil
 |cons h _ ih=>exact .cons (h.mono l) ih
end
variable [U:Unk]
theorem FrR.evR {ρ:Ren} {f:AF} {c:Frame} (h:FrR ρ f c):EvR ρ f.tmps c.eval:=by
 intro o;have:=Js h.tm o;cases o<;>exact this
theorem TR.put {ρ:Ren} {nt:Nat} {t:T AV} {a:Array Value} (h:TR ρ nt t a) {d:Nat} {v:AV} {r:Value} (I:d<nt) (J:VR ρ v r):TR ρ nt (t.set d v) (a.setIfInBounds d r):=by
 refine ⟨by simp [h.size],fun i x l=>?_⟩
 rw [T.get_set] at l;by_cases e:d=i
 ·subst e;rw [if_pos rfl] at l;cases l;have:d<a.size:=by rw [h.size];exact I
  simpa [L1,this] using J
 ·rw [if_neg e] at l;have:=h.get i x l;simpa [L1,pv e] using this
def Jc (a:Array Value) (dst:Option Tmp) (v:Value):Array Value:=match dst with|some d=>a.setIfInBounds d v|none=>a
theorem bp {c:Ren} {nt:Nat} {t f:T AV} {a:Array Value} (h:TR c nt t a) {dst:Option Tmp} {v:AV} {g:Value} (b:Ey nt t dst v=some f) (i:VR c v g) :
  TR c nt f (Jc a dst g):=by
 cases dst with
 |none=>simp only [Ey,C2] at b;subst b;exact h
 |some d=>
  simp only [Ey] at b;cases e:Nat.blt d nt with
  |false=>rw [e] at b;cases b
  |true=>
   rw [e] at b;simp only [C2] at b;subst b;exact h.put (by simpa [Nat.blt_eq] using e) i
theorem VR.not_bool {ρ:Ren} {a:AV} {v:Value} (h:VR ρ a v) (l:∀b,a≠.bool b) (r:a≠.top) (t:∀p e,a≠.sb p e) (b:Bool):v≠.bool b:=by
 cases h with
 |sb p e=>exact absurd rfl (t p e)
 |top v=>exact absurd rfl r
 |bool c=>exact absurd rfl (l c)
 |_=>exact fun e=>by cases e
theorem Cd {w:Ren} {nt:Nat} {t:T AV} {a:Array Value} (h:TR w nt t a) {all:Array Oper} {o:Oper} {b:Bool} (f:BL all o t=some b):Region.wanted o (yielded all a)=b:=by
 unfold BL at f;unfold Region.wanted;cases r:o.guard with
 |none=>rw [r] at f;simpa using f
 |some p=>
  obtain ⟨j,l⟩:=p;rw [r] at f;simp only at f ⊢;unfold yielded;have y:all[j]?=all.toList[j]?:=by simp
  rw [y];cases s:all.toList[j]? with
  |none=>rw [s] at f;simp at f ⊢;exact f
  |some g=>
   rw [s] at f;simp only [Option.bind_some] at f ⊢;cases u:g.dst with
   |none=>rw [u] at f;simp at f ⊢;exact f
   |some d=>
    rw [u] at f;simp only [Option.bind_some] at f ⊢;cases m:t.get d with
    |none=>rw [m] at f;cases f
    |some v=>
     rw [m] at f;have i:=h.get d v m;rw [L1] at i
     have n:(∀b,v≠.bool b)→v≠.top→(∀p e,v≠.sb p e)→((match a[d]? with|some (.bool b)=>some b|_=>none)==some l)=false:=by
      intro z A B;cases k:a[d]? with
      |none=>rfl
      |some x=>
       rw [k] at i;cases x with
       |bool c=>exact absurd rfl (i.not_bool z A B c)
       |_=>rfl
     cases v with
     |top=>cases f
     |sb p e=>
      simp only at f;split at f
      ·rename_i q C;have D:=Av U.ok C;simp only [C2] at f;cases k:a[d]? with
       |none=>rw [k] at i;cases i
       |some x=>
        rw [k] at i;cases i;rw [D];simpa using f
      ·cases f
     |bool e=>
      simp only [C2] at f;cases k:a[d]? with
      |none=>rw [k] at i;cases i
      |some x=>
       rw [k] at i;cases i;subst f;simp
     |_=>
      simp only [C2] at f;subst f;exact n (fun b e=>by cases e) (fun e=>by cases e) (fun p b e=>by cases e)
end Go.AE
namespace Go.AE
variable [Gl:AC]
variable [U:Unk]
theorem IL.ops_inv {ρ:Ren} {all:Array Oper} {o:Oper} {rest:List Oper} {k:List AI} {l:List Item} (h:IL ρ (.ops all (o::rest)::k) l) :
  ∃i r t,l=.inRegion all (i::r)::t∧all[i]?=some o∧rest.map some=r.map (fun i=>all[i]?)∧IL ρ k t:=by
 cases h with
 |cons h I=>
  cases h with
  |ops all rest r h=>
   cases r with
   |nil=>cases h
   |cons i r=>
    simp only [Ad9,List.cons.injEq] at h;exact ⟨i,r,_,rfl,h.1.symm,h.2,I⟩
theorem BH {n:Ren} {f r:AF} {c:Frame} (h:FrR n f c) {v:AV} {m:Value} (d:B1 f v=some r) (s:VR n v m):FrR n r (c.finish m):=by
 have b:=h.todo;unfold B1 at d;split at d
 ·rename_i all o rest k g;rw [g] at b;obtain ⟨i,p,u,e,w,x,j⟩:=b.ops_inv;split at d
  ·rename_i t y;simp only [C2] at d;subst d;have:=bp h.tm y s
   have z:c.finish m={c with tmps:=Jc c.tmps o.dst m,todo:=.inRegion all p::u}:=by
    simp only [Frame.finish,e,w,Option.bind_some,Jc];cases o.dst<;>rfl
   rw [z];exact ⟨h.fn,this,.cons (.ops _ _ _ x) j,h.defers,h.mode,h.kind,h.round⟩
  ·cases d
 ·rename_i l k g;rw [g] at b;simp only [C2] at d;subst d;generalize q:c.todo=A at b;cases b with
  |cons a j=>
   cases a with
   |inRange l base B=>
    simp only [Frame.finish,q];exact ⟨h.fn,h.tm,.cons (.endRange _ _ B) j,h.defers,h.mode,h.kind,h.round⟩
 ·rename_i k g;rw [g] at b;simp only [C2] at d;subst d;generalize q:c.todo=A at b;cases b with
  |cons a j=>
   cases a with
   |beginRound=>
    simp only [Frame.finish,q];exact ⟨h.fn,h.tm,j,h.defers,h.mode,h.kind,h.round⟩
 ·cases d
theorem TR.ofArgs {ρ:Ren} {n:Nat} {args:List AV} {l:List Value} (t:VL ρ args l):TR ρ (max n args.length) (.ofList args) (l.toArray++Array.replicate (n-l.toArray.size) undef):=by
 have hl:=t.1;refine ⟨by simp;omega,fun i x I=>?_⟩
 rw [T.get_ofList] at I;obtain ⟨v,J,r⟩:=t.get I;have hi:i<l.length:=(Id.1 J).1;rw [L1,Ad7 (by simpa using hi)]
 simpa [J] using r
theorem B6 {E:Env} (hE:OK E) {d:Ren} {f:FuncId} {args:List AV} {a:List Value} {kind:CallKind} {g:AF} (b:Bf E f args kind=some g) (h:VL d args a) :
  FrR d g (Frame.enter E.P f a.toArray kind):=by
 unfold Bf at b;split at b
 ·rename_i fn i;split at b
  ·rename_i c j;simp only [C2] at b;subst b
   have e:Frame.enter E.P f a.toArray kind={fn:=f,tmps:=a.toArray++Array.replicate (fn.ntmps-a.toArray.size) undef,todo:=[.code c],defers:=[],mode:=.run,kind}:=by
    simp [Frame.enter,hE.fn f fn i,j]
   rw [e];exact ⟨rfl,TR.ofArgs h,.cons (.code c) .nil,trivial,.run,rfl,trivial⟩
  ·cases b
 ·cases b
theorem JJ {g:Ren} {nt:Nat}:∀{f:List Tmp} {t d:T AV} {tm:Array Value} {args:List AV} {b:List Value},TR g nt t tm→VL g args b→Fi nt t f args=some d→
  b.length=f.length∧TR g nt d ((f.zip b).foldl (fun tmps x=>tmps.setIfInBounds x.1 x.2) tm)
 |[],t,d,tm,[],b,h,e,c=>by
  cases e.nil_inv;simp only [Fi,C2] at c;subst c;exact ⟨rfl,h⟩
 |[],t,d,tm,_::_,b,h,e,c=>by cases c
 |_::_,t,d,tm,[],b,h,e,c=>by cases c
 |p::f,t,d,tm,a::as,b,h,e,c=>by
  obtain ⟨v,r,rfl,j,k⟩:=e.cons_inv;simp only [Fi] at c;cases i:Nat.blt p nt with
  |false=>rw [i] at c;cases c
  |true=>
   rw [i] at c;obtain ⟨l,m⟩:=JJ (h.put (by simpa [Nat.blt_eq] using i) j) k c
   exact ⟨by simp [l],m⟩
theorem ND {E:Env} {c:Ren} {h:Aa} {w:World} (j:HR c h.blk.get w) {l:Nat} {base:Cr} {args:List AV} {a:List Value} {g:AF} (i:c l=some base) (b:G1 l args h=some g) (k:VL c args a) :
  ∃fn tm assign body,(Instr.yield base.cb a.toArray).run E.P w=.ok (.round base.cb fn tm assign body) w∧FrR c g (Frame.round base.cb fn tm assign body .normal):=by
 unfold G1 at b;split at b
 ·rename_i st pending fn nt tmps params assign body d m;split at b
  ·rename_i t n;simp only [C2] at b;subst b;obtain ⟨tm,s,u,o,p⟩:=j.blk l base _ i m;obtain ⟨q,r⟩:=JJ o k n;refine ⟨fn,_,assign,body,?_,⟨rfl,r,.cons (.code _) (.cons .beginRound (.cons (.code _) .nil)),trivial,.run,rfl,⟨base,i,rfl⟩⟩⟩;have f:=A7 E.P p (fun _ _ _ e=>by cases e)
   simp only [Instr.yield,Instr.getLoop,F9,f,E1,LE];simp [q]
  ·cases b
 ·cases b
end Go.AE
namespace Go.AE
variable [Gl:AC]
section
variable [U:Vals]
structure SR (ρ:Ren) (s:AS) (cf:Frame) (ccs:List Frame) (w:World):Prop where
 fr:FrR ρ s.fr cf
 cs:FrL ρ s.cs ccs
 h:HR ρ s.h.blk.get w
end
variable [U:Unk]
def A0 (P:Program) (base:List Frame) (i:Ren) (h:Aa) (c:Frame) (d:List Frame) (w0 w:World) (f:AS):Prop:=
 ∃g b a e,step P (lone c (d++base) w0)=.next (lone b (a++base) e)∧SR g f b a e∧Ext i g h f.h w e
theorem IL.not_call {ρ:Ren} {l:List AI} {t:List Item} (h:IL ρ l t) (d:Deferred) (b:Bool) (r:String) (a:Array Value) (k:List Item):t≠.call d b r a::k:=by
 intro e;cases h with
 |nil=>cases e
 |cons h _=>cases e;cases h
 |rest=>exact U.hR _ _ _ _ _ e
section
variable {E:Env} (hE:OK E) {ρ:Ren} {h:Aa} {w w0:World} {fr0 c:Frame} {f:AF} {cs:List AF} {ccs base:List Frame} {s:Sem Next} {r:Res} {s':AS}
include hE
theorem N4 (n:(stepG E.P true {frame:=fr0,callers:=ccs++base,status:=.running,dying:=none} w0).bare=(stepG.apply E.P true c (ccs++base) none s w).bare)
  (J:FH E ρ h w s r) (F:HR ρ h.blk.get w) (o:FrR ρ f c) (u:FrL ρ cs ccs) (hm:c.mode=.run) (b:BU E f cs r=.next s') (G:AX ρ h.nx s'.h.nx) :
  A0 E.P base ρ h fr0 ccs w0 w s':=by
 cases r with
 |val v h'=>
  simp only [BU] at b;split at b
  ·rename_i Q p;cases b;obtain ⟨σ,S,w',K,T,q3,V⟩:=J G;refine ⟨σ,c.finish S,ccs,w',step_lone_go ?_,⟨BH (o.mono V.le) p T,u.mono V.le,q3⟩,V⟩;rw [n];rcases K with K|⟨K,rfl⟩<;>simp [stepG.apply,K]
  ·cases b
 |enter g args h'=>
  obtain ⟨rfl,H,z,i⟩:=J;simp only [BU] at b;split at b
  ·rename_i g' W;cases b;refine ⟨ρ,_,c::ccs,w,step_lone_go ?_,⟨B6 hE W z,.cons o u,F⟩,Ext.refl _ _ _⟩;rw [n];have X:=o.todo;simp only [stepG.apply,Sem.runT_eq,i,if_true,GStep.bare_after,GStep.bare_go,List.cons_append];generalize c.todo=td at X;generalize f.todo=fd at X;cases X with
   |nil=>rfl
   |cons a _=>cases a<;>rfl
   |rest=>
    generalize hq:U.R=r;cases r with
    |nil=>rfl
    |cons x k=>cases x<;>first|rfl|exact absurd hq (U.hR _ _ _ _ _)
  ·cases b
 |round l args h'=>
  obtain ⟨rfl,lb,H,hb,z,i⟩:=J;simp only [BU] at b;split at b
  ·rename_i g' W;cases b;obtain ⟨fn,tm,assign,body,K,T⟩:=ND (E:=E) F hb W z;refine ⟨ρ,_,c::ccs,w,step_lone_go ?_,⟨T,.cons o u,F⟩,Ext.refl _ _ _⟩;rw [n];simp [stepG.apply,i,K]
  ·cases b
 |defer d h'=>
  obtain ⟨rfl,Y,Z,i⟩:=J;simp only [BU] at b;split at b
  ·cases b
  ·split at b
   ·rename_i Q p;cases b;have m:=BH o p (VR.undef ρ);refine ⟨ρ,{c with defers:=Y::c.defers}.finish undef,ccs,w,step_lone_go ?_,⟨?_,u,F⟩,Ext.refl _ _ _⟩
    ·rw [n];simp [stepG.apply,i]
    ·have e:({c with defers:=Y::c.defers}:Frame).finish undef={c.finish undef with defers:=Y::(c.finish undef).defers}:=by
      unfold Frame.finish;simp only;split<;>rfl
     rw [e];exact ⟨m.fn,m.tm,m.todo,⟨Z,m.defers⟩,m.mode,m.kind,m.round⟩
   ·cases b
 |recover h'=>
  obtain ⟨rfl,i⟩:=J;simp only [BU] at b;split at b
  ·rename_i a rest C I;have hk:c.kind=.deferred:=o.kind.trans I
   have L:c.roundOf=none:=by
    have:=o.round;rw [C] at this;cases hc:c.roundOf with
    |none=>rfl
    |some l=>rw [hc] at this;exact this.elim
   cases u with
   |cons z A=>
    rename_i M q;have j:=z.mode;split at b
    ·rename_i v t aa;split at b
     ·rename_i Q p;cases b;rw [aa] at j;generalize ab:M.mode=cm at j;cases j with
      |panic _ ac B=>
       cases ac with
       |nil=>exact B.elim
       |cons e D=>
        obtain ⟨O,N,h3,h4⟩:=B;obtain ⟨ev,er,eg⟩:=e;simp only at O N h3;subst N;subst h3;refine ⟨ρ,c.finish ev,{M with mode:=.panicking ({v:=ev,recovered:=true}::D)}::q,w,step_lone_go ?_,⟨BH o p O,.cons ⟨z.fn,z.tm,z.todo,z.defers,.panic _ _ ⟨O,rfl,rfl,h4⟩,z.kind,z.round⟩ A,F⟩,Ext.refl _ _ _⟩
        rw [n];simp [stepG.apply,i,L,tryRecover,hk,ab]
     ·cases b
    ·rename_i ad;split at b
     ·rename_i Q p;cases b;refine ⟨ρ,c.finish .nilIface,M::q,w,step_lone_go ?_,⟨BH o p .nilIface,.cons z A,F⟩,Ext.refl _ _ _⟩;rw [n]
      have:tryRecover c (M::(q++base))=none:=by
       have af:∀v t,M.mode≠.panicking ({v,recovered:=false,goexit:=false}::t):=by
        intro v t he;rw [he] at j;generalize ae:a.mode=am at j;cases j with
        |panic ch _ B=>
         cases ch with
         |nil=>exact B.elim
         |cons x r=>
          obtain ⟨xv,xb⟩:=x;obtain ⟨O,N,h3,h4⟩:=B;simp only at N;subst N;exact ad _ _ ae
       simp only [tryRecover,hk]
      simp [stepG.apply,i,L,this]
     ·cases b
  ·cases b
 |panic v h'=>
  obtain ⟨rfl,S,hv,i⟩:=J;simp only [BU] at b;split at b
  ·cases b;refine ⟨ρ,{c with mode:=.panicking [{v:=S,recovered:=false}]},ccs,w,step_lone_go ?_,⟨⟨o.fn,o.tm,o.todo,o.defers,.panic _ _ ⟨hv,rfl,rfl,trivial⟩,o.kind,o.round⟩,u,F⟩,Ext.refl _ _ _⟩
   rw [n];simp [stepG.apply,i,Frame.raise,hm]
  ·cases b
 |bad y=>cases b
end
end Go.AE
namespace Go.AE
variable [Gl:AC]
variable [U:Unk]
theorem Mo {d:Ren} {id:Nat} {k:List AI} {a:List Item} (h:IL d k a):(∀r,KD id k=some r→∃e,exitTo id a=some e∧IL d r e)∧(KD id k=none→IZ k=false→exitTo id a=none):=by
 induction h with
 |nil=>exact ⟨(fun r h=>by cases h),fun _ _=>rfl⟩
 |rest=>exact ⟨(fun r h=>by cases h),(fun _ h=>by cases h)⟩
 |cons h g ih=>
  cases h with
  |inBlock i=>
   simp only [KD,exitTo];cases f:Nat.beq i id with
   |true=>
    have:=Ax f;subst this;exact ⟨fun r b=>⟨_,if_pos (by simp),by cases b;exact g⟩,(fun b _=>by cases b)⟩
   |false=>
    have c:(i==id)=false:=by simpa using WY f
    rw [c];exact ih
  |_=>exact ih
theorem Mp {d:Ren} {l:Nat} {k:List AI} {a:List Item} (h:IL d k a):(∀r,NL l k=some r→∃e,gotoIn l a=some e∧IL d r e)∧(NL l k=none→IZ k=false→gotoIn l a=none):=by
 induction h with
 |nil=>exact ⟨(fun r h=>by cases h),fun _ _=>rfl⟩
 |rest=>exact ⟨(fun r h=>by cases h),(fun _ h=>by cases h)⟩
 |cons h f ih=>
  cases h with
  |inScope b=>
   simp only [NL,gotoIn];cases g:findLabel b l with
   |some rest=>exact ⟨fun r c=>⟨_,rfl,by cases c;exact .cons (.code _) (.cons (.inScope _) f)⟩,(fun c _=>by cases c)⟩
   |none=>exact ih
  |_=>exact ih
theorem CL.calm {J:Ren}:∀{l:List (AV×Bool)} {I:List PanicEntry},CL J l I→∀y∈I,y.goexit=false
 |[],[],_,y,t=>by cases t
 |_::_,e::r,⟨h1,h2,h3,h4⟩,y,t=>by
  rcases gk.1 t with rfl|t
  ·exact h3
  ·exact CL.calm h4 y t
theorem RZ:∀(l:List PanicEntry),(∀y∈l,y.goexit=false)→l.dropWhile (!·.goexit)=[]
 |[],_=>rfl
 |y::r,h=>by
  rw [List.dropWhile_cons_of_pos (by simp [h y (by simp)])]
  exact RZ r fun z a=>h z (by simp [a])
section
variable {E:Env} (hE:OK E) {ρ:Ren} {h:Aa} {w w0:World} {fr0 c:Frame} {f:AF} {cs:List AF} {ccs base:List Frame} {s':AS}
theorem Ie {v:AV} {J:Value} (p:(stepG E.P true {frame:=fr0,callers:=ccs++base,status:=.running,dying:=none} w0).bare=(doReturn E.P true c (ccs++base) none J w).bare)
  (t:HR ρ h.blk.get w) (u:c.kind=f.kind) (z:FrL ρ cs ccs) (L:VR ρ v J) (l:CF f cs v h=.next s'):A0 E.P base ρ h fr0 ccs w0 w s':=by
 unfold CF at l;cases z with
 |nil=>
  simp only at l;split at l<;>cases l
 |cons n i=>
  rename_i a A rest j;simp only at l;split at l
  ·rename_i d;split at l
   ·rename_i S B;cases l;refine ⟨ρ,_,j,w,step_lone_go ?_,⟨BH n B L,i,t⟩,Ext.refl _ _ _⟩;rw [p];simp [doReturn,u,d]
   ·cases l
  ·rename_i d;have b:=n.mode;split at l
   ·rename_i x k C;cases l;rw [C] at b;generalize D:A.mode=T at b;cases b with
    |panic _ F m=>
     cases F with
     |nil=>exact m.elim
     |cons e o=>
      have q:=m.calm;obtain ⟨K,s,G,M⟩:=m;obtain ⟨V,W,X⟩:=e;simp only at K s G;subst s;subst G;refine ⟨ρ,{A with mode:=.returning},j,w,step_lone_go ?_,⟨⟨n.fn,n.tm,n.todo,n.defers,.ret,n.kind,n.round⟩,i,t⟩,Ext.refl _ _ _⟩
      rw [p];simp [doReturn,u,d,D,RZ o fun y N=>q y (by simp [N])]
   ·rename_i H;cases l;refine ⟨ρ,_,j,w,step_lone_go ?_,⟨n,i,t⟩,Ext.refl _ _ _⟩;rw [p]
    have O:∀x g k,A.mode≠.panicking ({v:=x,recovered:=true,goexit:=g}::k):=by
     intro x g k Q;rw [Q] at b;generalize I:a.mode=Y at b;cases b with
     |panic R _ m=>
      cases R with
      |nil=>exact m.elim
      |cons x r=>
       obtain ⟨Z,xb⟩:=x;obtain ⟨K,s,G,M⟩:=m;simp only at s;subst s;exact H _ _ I
    simp only [List.cons_append,doReturn,u,d,GStep.bare_go]
  ·cases l
include hE
theorem Hb (k:HR ρ h.blk.get w) (i:FrR ρ f c):∀{q:List ResultVar} {l:List AV},BG E f h q=some l→
  ∃e:List Value,VL ρ l e∧(q.mapM fun|.tmp t=>pure (c.tmps.getD t undef)|.cell a t=>do loadVar t (←asAddr (c.tmps.getD a undef)):Sem (List Value)).run E.P w=.ok e w
 |[],l,b=>by
  simp only [BG,C2] at b;subst b;exact ⟨[],VL.nil ρ,by simp⟩
 |.tmp t::r,l,b=>by
  simp only [BG] at b;cases d:BG E f h r with
  |none=>rw [d] at b;cases b
  |some z=>
   rw [d] at b;simp only [C2] at b;subst b;obtain ⟨e,m,n⟩:=Hb k i d;refine ⟨c.tmps.getD t undef::e,VL.cons ?_ m,?_⟩
   ·cases g:f.tmps.get t with
    |none=>exact .top _
    |some a=>exact i.tm.get t a g
   ·simp only [List.mapM_cons,F9,LE,E1,n]
 |.cell a t::r,l,b=>by
  simp only [BG] at b;cases g:f.tmps.get a with
  |none=>rw [g] at b;cases b
  |some p=>
   rw [g] at b;simp only at b;cases j:OJ E t p h with
   |none=>rw [j] at b;cases b
   |some v=>
    cases d:BG E f h r with
    |none=>rw [j,d] at b;cases b
    |some z=>
     rw [j,d] at b;simp only [C2] at b;subst b;obtain ⟨e,m,n⟩:=Hb k i d;have s:=i.tm.get a p g;obtain ⟨u,p1,p2⟩:=Sl hE k s j;refine ⟨u::e,VL.cons p2 m,?_⟩
     have:(do loadVar t (←asAddr (c.tmps.getD a undef)):Sem Value).run E.P w=.ok u w:=by
      generalize c.tmps.getD a undef=x at p1 s;cases x with
      |pointer o=>cases o with
       |none=>simp [Instr.loadAt,Instr.sureAddr,stuck] at p1
       |some y=>simpa [Instr.loadAt,Instr.sureAddr,asAddr] using p1
      |_=>simp [Instr.loadAt,Instr.sureAddr,stuck] at p1
     simp only [List.mapM_cons,F9,LE] at this ⊢;rw [this];simp only [E1,n]
theorem FX (m:HR ρ h.blk.get w) (n:FrR ρ f c) {fn:Func} {l:List AV} (o:BG E f h fn.results.toList=some l) :
  ∃e,(results fn c.tmps).run E.P w=.ok e w∧(∀a,l=[a]→VR ρ a e)∧((∀a,l≠[a])→VR ρ (.tuple l) e):=by
 obtain ⟨b,d,p⟩:=Hb hE m n o;unfold results;rw [Array.mapM_eq_mapM_toList];simp only [F9,Sem.run_map,LE];refine ⟨if h:b.toArray.size=1 then b.toArray[0] else .tuple b.toArray,?_,?_,?_⟩
 ·have key:∀R:Result (List Value),R=.ok b w→((R.andThen fun a g=>Result.ok a.toArray g).andThen fun a g=>Result.ok (if h:a.size=1 then a[0] else Value.tuple a) g) =
    Result.ok (if h:b.toArray.size=1 then b.toArray[0] else Value.tuple b.toArray) w:=by rintro _ rfl;rfl
  refine key _ ?_;rw [←p]
  congr 2
 ·rintro a rfl
  obtain ⟨v,r,rfl,q,s⟩:=d.cons_inv;cases s.nil_inv;simpa using q
 ·intro i
  have:b.toArray.size≠1:=by
   intro j;have k:=d.1;simp only [List.size_toArray] at j;rw [j] at k;obtain ⟨a,rfl⟩:=List.length_eq_one_iff.1 k;exact i a rfl
  rw [dif_neg this];exact .tuple _ _ d.1 d.2
end
end Go.AE
namespace Go.AE
variable [Gl:AC]
variable [U:Unk]
theorem A0.pre {P:Program} {base:List Frame} {ρ σ:Ren} {h h1:Aa} {l:Frame} {r:List Frame} {w0 w w1:World} {I:AS} (e:Ext ρ σ h h1 w w1) (st:A0 P base σ h1 l r w0 w1 I) (hf:AX ρ h.nx I.h.nx) :
  A0 P base ρ h l r w0 w I:=by
 obtain ⟨τ,J,t,w',q1,q2,q3⟩:=st;exact ⟨τ,J,t,w',q1,q2,e.trans q3 hf⟩
section
variable {P:Program} {fr:Frame} {k:List Item} {cs:List Frame} {w:World}
theorem L0 {l:Nat} {a:Option Code} {c:World} {v:Value} (d:fr.mode=.run) (e:fr.roundOf=some l)
  (b:(fr.todo=[]∧a=none)∨(∃k,fr.todo=.code .ret::k∧a=some .ret)∨(∃id k,fr.todo=.code (.exit id)::k∧exitTo id k=none∧a=some (.exit id))∨(∃l k,fr.todo=.code (.goto l)::k∧gotoIn l k=none∧a=some (.goto l)))
  (f:(Instr.endRound l a).run P w=.ok v c):(stepG P true {frame:=fr,callers:=cs,status:=.running,dying:=none} w).bare=(doReturn P true fr cs none v c).bare:=by
 rcases b with ⟨b,rfl⟩|⟨k,b,rfl⟩|⟨id,k,b,g,rfl⟩|⟨h,k,b,g,rfl⟩<;>
 (cases fr;simp only at d b e;subst d;subst b;subst e;simp [stepG,stepG.exec,Sem.runT_eq, *])
theorem JH {v:Value} {fn:Func} (a:fr.mode=.returning) (b:fr.defers=[]) (c:P.funcs[fr.fn]?=some fn) (d:(results fn fr.tmps).run P w=.ok v w) :
  (stepG P true {frame:=fr,callers:=cs,status:=.running,dying:=none} w).bare=(doReturn P true fr cs none v w).bare:=by
 simp [stepG,unwind,a,b,c,Sem.runT_eq,d]
theorem mS {c:Frame} {e:List PanicEntry} (f:fr.mode=.panicking e) (g:fr.defers=[]) (h:∀d b r a k,fr.todo≠.call d b r a::k):step P (lone fr (c::cs) w)=.next (lone (c.raise e) cs w):=by
 have i:fr.catches P=false:=by
  unfold Frame.catches;split
  ·rename_i l j;exact absurd j (h _ _ _ _ _)
  ·rfl
 exact step_lone_go (by simp [stepG,unwind,f,g,i])
end
section
variable {E:Env} (hE:OK E) {ρ:Ren} {h:Aa} {w:World} {c:Frame} {f:AF} {cs:List AF} {ccs base:List Frame} {s':AS}
theorem KA (i:HR ρ h.blk.get w) {l:Nat} {b:Cr} {st:LoopState} {pending:Option Code} {fn:FuncId} {nt:Nat} {tmps:T AV} {params:List Tmp} {assign body:Code} {d:Nat} (j:ρ l=some b)
  (k:h.blk.get l=some (.loop st pending fn nt tmps params assign body d)) (a:Option Code) :
  ∃g,(Instr.endRound b.cb a).run E.P w=.ok (.bool a.isNone) g∧HR ρ (h.put l (.loop (if a.isNone then .ready else .done) a fn nt tmps params assign body d)).blk.get g∧
   Ext ρ ρ h (h.put l (.loop (if a.isNone then .ready else .done) a fn nt tmps params assign body d)) w g:=by
 obtain ⟨tm,m,o,p,n⟩:=i.blk l b _ j k;have q:=A7 E.P n (fun _ _ _ e=>by cases e)
 obtain ⟨r,s⟩:=i.setObj j (by rw [k];exact fun e=>by cases e) (.loop (if a.isNone then .ready else .done) a fn nt tmps params assign body d)
  (.loop {state:=if a.isNone then .ready else .done,pending:=a,fn:=fn,tmps:=tm,params:=params.toArray,assign:=assign,body:=body,defers:=m.cb}) ⟨tm,m,o,p,rfl⟩
 refine ⟨_,?_,r,s⟩;have t:=fun o'=>Bg (o':=o') E.P n (fun _ _ _ e=>by cases e)
 simp only [Instr.endRound,Instr.getLoop,F9,q,E1,LE,t]
theorem RR.none_inv {ρ:Ren} {x:Option Nat} (h:RR ρ none x):x=none:=by
 cases x with
 |none=>rfl
 |some l=>exact h.elim
theorem RR.some_inv {ρ:Ren} {l:Nat} {x:Option Nat} (h:RR ρ (some l) x):∃b,ρ l=some b∧x=some b.cb:=by
 cases x with
 |none=>exact h.elim
 |some c=>obtain ⟨b,r,rfl⟩:=h;exact ⟨b,r,rfl⟩
theorem Hp (s:HR ρ h.blk.get w) (i:FrR ρ f c) (o:FrL ρ cs ccs) (t:c.mode=.run) {e:Option Code}
  (j:(c.todo=[]∧e=none)∨(∃k,c.todo=.code .ret::k∧e=some .ret)∨(∃id k,c.todo=.code (.exit id)::k∧exitTo id k=none∧e=some (.exit id))∨(∃l k,c.todo=.code (.goto l)::k∧gotoIn l k=none∧e=some (.goto l)))
  (g:DU f cs h e=.next s') (m:AX ρ h.nx s'.h.nx):A0 E.P base ρ h c ccs w w s':=by
 have a:=i.round;unfold DU at g;split at g
 ·rename_i p;rw [p] at a;have n:=a.none_inv
  have q:c.todo=[]∨∃k,c.todo=.code .ret::k:=by
   rcases j with ⟨j,_⟩|⟨k,j,_⟩|⟨id,k,j,u,rfl⟩|⟨C,k,j,u,rfl⟩
   ·exact .inl j
   ·exact .inr ⟨k,j⟩
   ·cases g
   ·cases g
  have v:s'={fr:={f with mode:=.ret},cs,h}:=by
   split at g
   ·cases g;rfl
   ·cases g;rfl
   ·cases g
  subst v;exact ⟨ρ,_,ccs,w,jK t q n,⟨⟨i.fn,i.tm,i.todo,i.defers,.ret,i.kind,i.round⟩,o,s⟩,Ext.refl _ _ _⟩
 ·rename_i l r;rw [r] at a;obtain ⟨b,x,n⟩:=a.some_inv;split at g
  ·rename_i st pending fn nt tmps params assign body d y;obtain ⟨D,z,A,B⟩:=KA (E:=E) s x y e;exact A0.pre B (Ie (L0 t n j z) A i.kind o (.bool _) g) m
  ·cases g
include hE
theorem SO (u:HR ρ h.blk.get w) (o:FrR ρ f c) (q:FrL ρ cs ccs) (W:c.mode≠.run) (i:Eb E f cs h=.next s'):A0 E.P base ρ h c ccs w w s':=by
 have m:=o.defers;unfold Eb at i;split at i
 ·rename_i d ds B;rw [B] at m;cases n:c.defers with
  |nil=>rw [n] at m;exact m.elim
  |cons d' H=>
   rw [n] at m;obtain ⟨s,I⟩:=m;unfold DR at s;split at i
   ·rename_i t;rw [t] at s;obtain ⟨b,X,rfl⟩:=s;split at i
    ·rename_i l Y;cases i;obtain ⟨l',q1,Z⟩:=u.blk _ b _ X Y;obtain ⟨p1,p2⟩:=u.setObj X (by rw [Y];exact fun e=>by cases e) (.deferred none) (.deferred none) rfl
     refine ⟨ρ,_,ccs,_,Yn W n ?_,⟨⟨o.fn,o.tm,o.todo,q1.append I,o.mode,o.kind,o.round⟩,q,p1⟩,p2⟩;have N:=A7 E.P Z (fun _ _ _ e=>by cases e)
     have hs:=Bg (o':=.deferred none) E.P Z (fun _ _ _ e=>by cases e)
     simp only [Instr.takeDeferred,F9,N,E1,LE,hs]
    ·cases i
   ·rename_i fn t;rw [t] at s;obtain ⟨aa,c',a',h1,h2,h3,rfl⟩:=s;have hi:=Ei hE u h1 h2 h3;split at i
    ·rename_i g args h' O;rw [O] at hi;obtain ⟨rfl,Q,y,J⟩:=hi;split at i
     ·rename_i gf N;cases i;exact ⟨ρ,_,{c with defers:=H}::ccs,w,bw W n (fun b e=>by cases e) (fun e=>by cases e) J,⟨B6 hE N y,.cons ⟨o.fn,o.tm,o.todo,I,o.mode,o.kind,o.round⟩ q,u⟩,Ext.refl _ _ _⟩
     ·cases i
    ·cases i
 ·rename_i B;rw [B] at m
  have n:c.defers=[]:=by
   cases n:c.defers with
   |nil=>rfl
   |cons d' H=>rw [n] at m;exact m.elim
  have j:=o.mode;split at i
  ·cases i
  ·rename_i R C;rw [C] at j;generalize z:c.mode=cm at j;cases j with
   |panic _ K S=>
    cases q with
    |nil=>
     simp only at i;split at i
     ·split at i<;>cases i
     ·cases i
    |cons y D=>
     rename_i a M rest F;simp only at i;split at i
     ·rename_i T;cases i;have p:=y.mode;rw [T] at p
      have L:M.mode=.run:=by
       generalize M.mode=x at p;cases p;rfl
      refine ⟨ρ,_,F,w,mS z n (fun d b r a k=>o.todo.not_call d b r a k),⟨?_,D,u⟩,Ext.refl _ _ _⟩
      have e:M.raise K={M with mode:=.panicking K}:=by simp [Frame.raise,L]
      rw [e];exact ⟨y.fn,y.tm,y.todo,y.defers,.panic _ _ S,y.kind,y.round⟩
     ·cases i
  ·rename_i C;rw [C] at j
   have z:c.mode=.returning:=by
    generalize c.mode=x at j;cases j;rfl
   split at i
   ·rename_i fn t;have A:E.P.funcs[c.fn]?=some fn:=by rw [o.fn];exact hE.fn _ _ t
    split at i
    ·rename_i v G;obtain ⟨v',p1,p2,p3⟩:=FX hE u o G;exact Ie (JH z n A p1) u o.kind q (p2 _ rfl) i
    ·rename_i l V G;obtain ⟨v',p1,p2,p3⟩:=FX hE u o G;exact Ie (JH z n A p1) u o.kind q (p3 fun a e=>V a (by rw [e])) i
    ·cases i
   ·cases i
end
end Go.AE
namespace Go.AE
variable [Gl:AC]
variable [U:Unk]
section
variable {E:Env} (hE:OK E) {ρ:Ren} {h:Aa} {w:World} {c:Frame} {f:AF} {cs:List AF} {ccs base:List Frame} {s s':AS}
theorem A0.to {P:Program} (l:SR ρ s c ccs w) {k:List AI} {t:List Item} (I:IL ρ k t) (r:step P (lone c (ccs++base) w)=.next (lone {c with todo:=t} (ccs++base) w)) :
  A0 P base ρ s.h c ccs w w {s with fr:={s.fr with todo:=k}}:=
 ⟨ρ,_,ccs,w,r,⟨⟨l.fr.fn,l.fr.tm,I,l.fr.defers,l.fr.mode,l.fr.kind,l.fr.round⟩,l.cs,l.h⟩,Ext.refl _ _ _⟩
theorem Wr (ops:Array Oper):ops.toList.map some=(List.range ops.size).map fun i=>ops[i]?:=by
 apply List.ext_getElem (by simp)
 intro i a b;simp at a;simp [a]
theorem DB (tmps:T AV) (c:Call) (h:Aa):(∃d,Hf tmps c h=.defer d h)∨∃y,Hf tmps c h=.bad y:=by
 unfold Hf;split
 ·split
  ·exact .inl ⟨_,rfl⟩
  ·exact .inr ⟨_,rfl⟩
 ·exact .inr ⟨_,rfl⟩
theorem HJ.not_run {ρ:Ren} {a:HJ} {m:FrameMode} (h:MR ρ a m) (l:a≠.run):m≠.run:=by
 cases h with
 |run=>exact absurd rfl l
 |ret=>exact fun e=>by cases e
 |panic=>exact fun e=>by cases e
include hE
theorem zB (a:SR ρ s c ccs w) (q:c.mode=.run) (A:s.fr.mode=.run) {all:Array Oper} {o:Oper} {rest:List Oper} {k:List AI} (B:s.fr.todo=.ops all (o::rest)::k)
  (g:(match BL all o s.fr.tmps with
   |some true=>BU E s.fr s.cs (aop E s.fr.tmps s.h o.op)
   |some false=>BU E s.fr s.cs (.val .undef s.h)
   |none=>.bad "wanted")=.next s') (m:AX ρ s.h.nx s'.h.nx):A0 E.P base ρ s.h c ccs w w s':=by
 have j:=a.fr.todo;rw [B] at j;obtain ⟨i,C,F,e,x,z,G⟩:=j.ops_inv;split at g
 ·rename_i r;have n:=Cd a.fr.tm r
  have D:c.roundOf=none∨∀cl,o.op≠.defer cl:=by
   cases p:o.op with
   |defer cl=>
    left;have b:=a.fr.round;rcases DB s.fr.tmps cl s.h with ⟨d,t⟩|⟨y,t⟩
    ·have l:aop E s.fr.tmps s.h o.op=.defer d s.h:=by rw [p];simpa [aop] using t
     rw [l] at g;simp only [BU] at g;split at g
     ·cases g
     ·rename_i u;rw [u] at b;exact b.none_inv
    ·have l:aop E s.fr.tmps s.h o.op=.bad y:=by rw [p];simpa [aop] using t
     rw [l] at g;cases g
   |_=>exact .inr fun cl e=>by cases e
  exact N4 hE (by rw [FC q e x n D]) (Ii hE a.h a.fr.evR o) a.h a.fr a.cs q g m
 ·rename_i r;have n:=Cd a.fr.tm r;simp only [BU] at g;split at g
  ·rename_i H v;cases g;exact ⟨ρ,_,ccs,w,Ow q e x n,⟨BH a.fr v (VR.undef ρ),a.cs,a.h⟩,Ext.refl _ _ _⟩
  ·cases g
 ·cases g
omit hE in
theorem FH.congr {s t:Sem Next} {r:Res} (e:s.run E.P w=t.run E.P w) (d:FH E ρ h w t r):FH E ρ h w s r:=by
 cases r with
 |bad y=>trivial
 |_=>simpa only [FH,e] using d
def L9 (a:Option Nat):Sem (Nat×List Deferred):=match a with
  |some l=>do pure ((←Instr.getLoop l).defers,[])
  |none=>do
   let r ←newObj (.deferred (some []))
   pure (r,[{target:=.collected r,args:=#[]}])
omit hE in
theorem SJ (hr:HR ρ h.blk.get w) (hf:FrR ρ f c) {d:Nat} {h1:Aa} {mark:List AD} (hc:UV f h=some (d,h1,mark)) (hfree:AX ρ h.nx h1.nx) :
  ∃σ w1 bd mark',(L9 c.roundOf).run E.P w=.ok (bd.cb,mark') w1∧σ d=some bd∧DL σ mark mark'∧HR σ h1.blk.get w1∧Ext ρ σ h h1 w w1:=by
 have hround:=hf.round;unfold UV at hc;split at hc
 ·rename_i l hrs;rw [hrs] at hround;obtain ⟨b,hb,hro⟩:=hround.some_inv;split at hc
  ·rename_i hl;simp only [C2,hS] at hc;obtain ⟨rfl,rfl,rfl⟩:=hc;obtain ⟨tm,bd,q1,q2,q3⟩:=hr.blk l b _ hb hl;have hg:=A7 E.P q3 (fun _ _ _ e=>by cases e)
   refine ⟨ρ,w,bd,[],?_,q1,trivial,hr,Ext.refl _ _ _⟩;simp only [hro,L9,Instr.getLoop,F9,hg,E1,LE]
  ·cases hc
 ·rename_i hrn;rw [hrn] at hround;have hro:=hround.none_inv;simp only [C2,hS] at hc;obtain ⟨rfl,rfl,rfl⟩:=hc;obtain ⟨q1,q2⟩:=hr.new (hfree h.nx (IqQ _) (by simp [Aa.new])) (.deferred (some [])) (.deferred (some [])) 0 ⟨[],trivial,rfl⟩ {w with heap:=w.heap.push (.deferred (some []))} rfl rfl rfl rfl
  have hu:(ρ.upd h.nx ⟨w.heap.size,0,0⟩) h.nx=some ⟨w.heap.size,0,0⟩:=by simp [Ren.upd]
  refine ⟨_,_,⟨w.heap.size,0,0⟩,[{target:=.collected w.heap.size,args:=#[]}],?_,hu,⟨⟨_,hu,rfl⟩,trivial⟩,q1,q2⟩;simp only [hro,L9,F9,Aee,E1,LE]
theorem Zx (q:SR ρ s c ccs w) (M:c.mode=.run) {fo:Operand} {params:Array Tmp} {assign body:Code} {k:List AI} {D:List Item} (O:IL ρ k D) (Q:c.todo=.code (.rangeFunc fo params assign body)::D)
  (p:Hx E s fo params.toList assign body k=.next s') (hfree:AX ρ s.h.nx s'.h.nx):A0 E.P base ρ s.h c ccs w w s':=by
 unfold Hx at p;split at p
 ·rename_i d h1 mark u;split at p
  ·rename_i fn first captured F;split at p
   ·rename_i g args R G;split at p
    ·rename_i gf hg;cases p;have z:(h1.new (.loop .ready none s.fr.fn s.fr.nt s.fr.tmps params.toList assign body d)).nx=h1.nx+1:=rfl;obtain ⟨σ,w1,bd,mark',q1,q2,q3,S,A⟩:=SJ (E:=E) q.h q.fr u (fun b h1 h2=>hfree b h1 (by simp only [z];omega))
     have v:=q.fr.mono A.le;have n:σ h1.nx=none:=(A.free hfree) h1.nx (IqQ _) (by simp only [z];omega)
     have o:=Ren.le_upd n ⟨w1.heap.size,0,0⟩;obtain ⟨p1,p2⟩:=S.new n (.loop .ready none s.fr.fn s.fr.nt s.fr.tmps params.toList assign body d)
      (.loop {state:=.ready,pending:=none,fn:=c.fn,tmps:=c.tmps,params:=params,assign:=assign,body:=body,defers:=bd.cb}) 0
      ⟨c.tmps,bd,o.m _ _ q2,v.tm.mono o,by rw [v.fn]⟩
      {w1 with heap:=w1.heap.push (.loop {state:=.ready,pending:=none,fn:=c.fn,tmps:=c.tmps,params:=params,assign:=assign,body:=body,defers:=bd.cb})} rfl rfl rfl rfl
     have hu:(σ.upd h1.nx ⟨w1.heap.size,0,0⟩) h1.nx=some ⟨w1.heap.size,0,0⟩:=by simp [Ren.upd]
     have B:(Instr.enterLoop c.fn c.tmps params assign body c.roundOf).run E.P w=.ok (w1.heap.size,mark') {w1 with heap:=w1.heap.push (.loop {state:=.ready,pending:=none,fn:=c.fn,tmps:=c.tmps,params:=params,assign:=assign,body:=body,defers:=bd.cb})}:=by
      cases hro:c.roundOf with
      |some l=>
       rw [hro] at q1;simp only [L9,F9,LE] at q1;simp only [Instr.enterLoop,F9,LE,Aee,E1];cases N:(Instr.getLoop l).run E.P w with
       |ok a w2=>
        rw [N] at q1;simp only [E1,Result.ok.injEq,hS] at q1 ⊢;obtain ⟨⟨H,I⟩,J⟩:=q1;rw [H,I,J];exact ⟨⟨rfl,rfl⟩,rfl⟩
       |halt x w2=>rw [N] at q1;cases q1
      |none=>
       rw [hro] at q1;simp only [L9,F9,LE,Aee,E1,Result.ok.injEq,hS] at q1;obtain ⟨⟨H,I⟩,J⟩:=q1;simp only [Instr.enterLoop,F9,LE,Aee,E1];rw [←H,←I,←J]
     refine A0.pre (A.trans p2 hfree) ?_ hfree;have i:=v.mono o;have K:=i.evR fo;rw [F] at K;generalize L:c.eval fo=cv at K;cases K with
     |func _ T _ _ V c' W X Y Z r5=>
      have ha:VL (σ.upd h1.nx ⟨w1.heap.size,0,0⟩) (first++[.func (.yield h1.nx) [] []]) (V++[.func (.yield w1.heap.size) #[] #[]]):=
       VL.append ⟨X,Y⟩ (VL.cons (.func _ _ [] [] [] [] ⟨_,hu,rfl⟩ rfl (by simp) rfl (by simp)) (VL.nil _))
      have j:=Ei hE p1 W ⟨Z,r5⟩ ha;rw [G] at j;have he:R=_:=j.1;subst he
      refine N4 hE (c:={c with todo:=.inRangeFunc w1.heap.size::D,defers:=mark'++c.defers})
       (f:={s.fr with todo:=.inRange h1.nx::k,defers:=mark++s.fr.defers}) (cs:=s.cs) (KZ M Q B) (j.congr ?_) p1
       ⟨i.fn,i.tm,.cons (.inRange _ _ hu) ((O.mono A.le).mono o),(q3.mono o).append i.defers,i.mode,i.kind,i.round⟩ ((q.cs.mono A.le).mono o) M ?_ (fun b l1 l2=>absurd (Nat.lt_of_le_of_lt l1 l2) (Nat.lt_irrefl _))
      ·have C:c.eval (.const (.func (.yield w1.heap.size) #[] #[]))=.func (.yield w1.heap.size) #[] #[]:=rfl;simp [resolve,L,C,Deferred.ofValue]
      ·simp only [BU,hg]
    ·cases p
   ·cases p
  ·cases p
 ·cases p
theorem I8 (g:SR ρ s c ccs w) (p:A8 E s=.next s') (hfree:AX ρ s.h.nx s'.h.nx):A0 E.P base ρ s.h c ccs w w s':=by
 have z:=g.fr.mode;have m:=g.fr.todo;unfold A8 at p;simp only at p;split at p
 ·rename_i D;rw [D] at z
  have v:c.mode=.run:=by
   generalize c.mode=x at z;cases z;rfl
  split at p
  ·rename_i B;rw [B] at m;generalize n:c.todo=td at m;cases m;exact Hp g.h g.fr g.cs v (.inl ⟨n,rfl⟩) p hfree
  ·rename_i id k B;rw [B] at m;generalize n:c.todo=td at m;cases m with|cons a u=>
   cases a;cases p;exact A0.to g u (UC v n)
  ·rename_i id k B;rw [B] at m;generalize n:c.todo=td at m;cases m with|cons a u=>
   cases a;cases p;exact A0.to g u (Uj v n)
  ·rename_i b k B;rw [B] at m;generalize n:c.todo=td at m;cases m with|cons a u=>
   cases a;cases p;exact A0.to g (.cons (.code _) (.cons (.inLoop _) u)) (Wj v n)
  ·rename_i all k B;rw [B] at m;generalize n:c.todo=td at m;cases m with|cons a u=>
   cases a with|ops _ _ J K=>
   cases J with
   |cons i J=>cases K
   |nil=>
    cases p;exact A0.to g u (JE v n)
  ·rename_i all o rest k B;exact zB hE g v D B p hfree
  ·cases p
  ·cases p
  ·cases p
  ·rename_i l k B;rw [B] at m;generalize n:c.todo=td at m;cases m with|cons a u=>
   cases a with|endRange _ b hb=>
   split at p
   ·rename_i st pending fn nt tmps params assign body d hl;split at p
    ·cases p
    ·rename_i N;cases p;obtain ⟨tm,bd,h1,H,L⟩:=g.h.blk l b _ hb hl;have hg:=A7 E.P L (fun _ _ _ e=>by cases e)
     obtain ⟨q1,q2⟩:=g.h.setObj hb (by rw [hl];exact fun e=>by cases e) (.loop .exhausted pending fn nt tmps params assign body d)
      (.loop {state:=.exhausted,pending,fn:=fn,tmps:=tm,params:=params.toArray,assign:=assign,body:=body,defers:=bd.cb}) ⟨tm,bd,h1,H,rfl⟩
     have O:=fun o'=>Bg (o':=o') E.P L (fun _ _ _ e=>by cases e)
     have Q:(st==LoopState.busy)=false:=by
      cases st<;>first|rfl|exact absurd rfl N
     have M:(Instr.endLoop b.cb).run E.P w=.ok pending {w with heap:=w.heap.setIfInBounds b.cb (.loop {state:=.exhausted,pending,fn:=fn,tmps:=tm,params:=params.toArray,assign:=assign,body:=body,defers:=bd.cb})}:=by
      simp only [Instr.endLoop,Instr.getLoop,F9,hg,E1,LE,Q,ei,ws,O]
     refine ⟨ρ,_,ccs,_,TU v n M,⟨⟨g.fr.fn,g.fr.tm,?_,g.fr.defers,g.fr.mode,g.fr.kind,g.fr.round⟩,g.cs,q1⟩,q2⟩;cases pending with
     |none=>exact u
     |some j=>exact .cons (.code _) u
   ·cases p
  ·rename_i k B;rw [B] at m;generalize n:c.todo=td at m;cases m with|cons a u=>
   cases a;have hround:=g.fr.round;split at p
   ·rename_i l hrs;rw [hrs] at hround;obtain ⟨b,hb,hro⟩:=hround.some_inv;split at p
    ·rename_i pending fn nt tmps params assign body d hl;cases p;obtain ⟨tm,bd,h1,H,L⟩:=g.h.blk l b _ hb hl;have hg:=A7 E.P L (fun _ _ _ e=>by cases e)
     obtain ⟨q1,q2⟩:=g.h.setObj hb (by rw [hl];exact fun e=>by cases e) (.loop .busy pending fn nt tmps params assign body d)
      (.loop {state:=.busy,pending,fn:=fn,tmps:=tm,params:=params.toArray,assign:=assign,body:=body,defers:=bd.cb}) ⟨tm,bd,h1,H,rfl⟩
     have O:=fun o'=>Bg (o':=o') E.P L (fun _ _ _ e=>by cases e)
     refine ⟨ρ,_,ccs,_,Nx v n hro ?_,⟨⟨g.fr.fn,g.fr.tm,u,g.fr.defers,g.fr.mode,g.fr.kind,g.fr.round⟩,g.cs,q1⟩,q2⟩;simp only [Instr.beginRound,Instr.getLoop,F9,hg,E1,LE,O]
    ·cases p
   ·cases p
  ·rename_i Y k B;rw [B] at m;generalize n:c.todo=td at m;cases m with|cons a u=>
   cases a;split at p
   ·exact Hp g.h g.fr g.cs v (.inr (.inl ⟨_,n,rfl⟩)) p hfree
   ·cases p;exact A0.to g u (aF v n)
   ·cases p;exact A0.to g u (XD v n)
   ·cases p;exact A0.to g (.cons (.code _) (.cons (.code _) u)) (lB v n)
   ·rename_i F x y;have G:=g.fr.evR F;split at p
    ·rename_i C;rw [C] at G;generalize A:c.eval F=S at G;cases G;cases p;exact A0.to g (.cons (.code _) u) (Lj v n A)
    ·rename_i C;rw [C] at G;generalize A:c.eval F=S at G;cases G;cases p;exact A0.to g (.cons (.code _) u) (Lj v n A)
    ·rename_i pos e C;rw [C] at G;generalize A:c.eval F=S at G;cases G;split at p
     ·rename_i q V;have W:=Av U.ok V;rw [W] at A;split at p
      ·rename_i R;rw [R] at A;cases p;exact A0.to g (.cons (.code _) u) (Lj v n A)
      ·rename_i R;rw [R] at A;cases p;exact A0.to g (.cons (.code _) u) (Lj v n A)
     ·cases p
    ·cases p
   ·cases p;exact A0.to g (.cons (.code _) (.cons (.inBlock _) u)) (Zv v n)
   ·cases p;exact A0.to g (.cons (.code _) (.cons (.inLoop _) u)) (ca v n)
   ·cases p;exact A0.to g (.cons (.code _) (.cons (.inScope _) u)) (Y9 v n)
   ·rename_i id;split at p
    ·rename_i k2 C;cases p;obtain ⟨X,h1,H⟩:=(Mo u).1 _ C;exact A0.to g H (bO v n h1)
    ·rename_i C;split at p
     ·cases p
     ·rename_i I;exact Hp g.h g.fr g.cs v (.inr (.inr (.inl ⟨_,_,n,(Mo u).2 C I,rfl⟩))) p hfree
   ·rename_i id;split at p
    ·rename_i k2 C;cases p;obtain ⟨X,h1,H⟩:=(Mp u).1 _ C;exact A0.to g H (bI v n h1)
    ·rename_i C;split at p
     ·cases p
     ·rename_i I;exact Hp g.h g.fr g.cs v (.inr (.inr (.inr ⟨_,_,n,(Mp u).2 C I,rfl⟩))) p hfree
   ·exact Zx hE g v u n p hfree
   ·rename_i id ops T;split at p
    ·cases p;exact A0.to g (.cons (.ops _ _ _ (Wr _)) u) (WC v n)
    ·cases p
   ·cases p
 ·rename_i D;exact SO hE g.h g.fr g.cs (HJ.not_run z D) p
end
end Go.AE
namespace Go.AE
variable [Gl:AC]
variable [U:Unk]
def WF (h:Aa):Prop:=∀b,h.nx≤b→h.blk.get b=none
theorem Ext.wf {ρ l:Ren} {h h':Aa} {w r:World} (e:Ext ρ l h h' w r) (t:WF h):WF h':=by
 intro b hb;have:=e.nx;cases I:h'.blk.get b with
 |none=>rfl
 |some x=>
  rcases e.live b (by rw [I];exact fun e=>by cases e) with J|⟨_,h2⟩
  ·exact absurd (t b (by omega)) J
  ·omega
def BJ (P:Program) (m:Machine) (c0:Frame) (base:List Frame) (ok:Bool) (v:Value) (w:World):Prop:=
 match ok with
 |true=>Steps P m (lone (c0.finish v) base w)
 |false=>Steps P m (lone (c0.raise [{v:=v,recovered:=false}]) base w)
theorem BJ.head {P:Program} {m l:Machine} {c0:Frame} {base:List Frame} {ok:Bool} {v:Value} {w:World} (h:step P m=.next l) (k:BJ P l c0 base ok v w):BJ P m c0 base ok v w:=by
 cases ok
 ·exact Steps.head h k
 ·exact Steps.head h k
def FL (E:Env) (a:Ask→Aa→Option (Bool×AV×Aa)):Prop:=
 (∀(f:FuncId) (args:List AV) (b:List Value) (h g:Aa) (ok:Bool) (v:AV) (c:Ren) (w:World),VL c args b→HR c h.blk.get w→WF h→a (.enter f args) h=some (ok,v,g)→AX c h.nx g.nx→
  ∀(c0:Frame) (base:List Frame),∃d i e,BJ E.P (lone (Frame.enter E.P f b.toArray .normal) (c0::base) w) c0 base ok i e∧VR d v i∧HR d g.blk.get e∧Ext c d h g w e)∧
 (∀(l:Nat) (args:List AV) (h g:Aa) (ok:Bool) (v:AV) (c:Ren) (w:World),HR c h.blk.get w→WF h→a (.round l args) h=some (ok,v,g)→AX c h.nx g.nx→
  ∃fr,G1 l args h=some fr∧∀(j:Frame),FrR c fr j→∀(c0:Frame) (base:List Frame),∃d i e,BJ E.P (lone j (c0::base) w) c0 base ok i e∧VR d v i∧HR d g.blk.get e∧Ext c d h g w e)
def part (h:Aa):Option (List Nat)→Aa
 |some a=>{blk:=Do h a,nx:=h.nx,log:=[]}
 |none=>{h with log:=[]}
theorem Dx (h:Aa):∀(l:List Nat) (b:Nat),(Do h l).get b=none∨(b∈l∧(Do h l).get b=h.blk.get b)
 |[],b=>.inl (T.get_nil b)
 |c::r,b=>by
  simp only [Do];cases f:h.blk.get c with
  |none=>
   rcases Dx h r b with q|⟨a,d⟩
   ·exact .inl q
   ·exact .inr ⟨by simp [a],d⟩
  |some x=>
   simp only [T.get_set];by_cases e:c=b
   ·subst e;rw [if_pos rfl];exact .inr ⟨by simp,f.symm⟩
   ·rw [if_neg e];rcases Dx h r b with q|⟨a,d⟩
    ·exact .inl q
    ·exact .inr ⟨by simp [a],d⟩
theorem Lp {h:Aa} (c:WF h) (fp:Option (List Nat)):WF (part h fp):=by
 intro b d;cases fp with
 |none=>exact c b d
 |some a=>
  rcases Dx h a b with q|⟨_,q⟩
  ·exact q
  ·exact q.trans (c b d)
theorem O2 {f:Ren} {a:AV} {v:Value} (h:VR f a v):VR f (ZL a) v:=by
 unfold ZL;split
 ·rename_i b nl;split
  ·rename_i d;have e:=Av U.ok d;cases h with
   |nmap _ _ base g c=>rw [c] at e;cases e
   |nmap0=>exact .map0
  ·rename_i d;have e:=Av U.ok d;cases h with
   |nmap _ _ base g c=>exact .map _ base g
   |nmap0 _ _ c=>rw [c] at e;cases e
  ·exact h
 ·exact h
theorem DA (t:T AV):∀(l:List Tmp) (i:Tmp) (x:AV),(A1 t l).get i=some x→i∈l∧∃y,t.get i=some y∧x=ZL y
 |[],i,x,h=>by rw [A1,T.get_nil] at h;cases h
 |c::r,i,x,h=>by
  simp only [A1] at h;cases a:t.get c with
  |none=>
   rw [a] at h;obtain ⟨b,d⟩:=DA t r i x h;exact ⟨by simp [b],d⟩
  |some y=>
   rw [a] at h;simp only [T.get_set] at h;by_cases e:c=i
   ·subst e;rw [if_pos rfl] at h;cases h;exact ⟨by simp,_,a,rfl⟩
   ·rw [if_neg e] at h;obtain ⟨b,d⟩:=DA t r i x h;exact ⟨by simp [b],d⟩
section
variable {E:Env} (hE:OK E) {callF:Ask→Aa→Option (Bool×AV×Aa)} {ρ:Ren} {h:Aa} {w:World} {c:Frame} {cs:List Frame}
include hE
theorem OR (hF:FL E callF) {all:Array Oper} {o:Oper} {nt:Nat} {t:T AV} {d:Did} {i:Nat} {rest:List Nat} {k:List Item} (m:Dj E callF all o t h=some d) (K:WF h) (J:c.mode=.run)
  (A:c.todo=.inRegion all (i::rest)::k) (L:all[i]?=some o) (O:TR ρ nt t c.tmps) (D:HR ρ (part h d.fp).blk.get w) (p:AX ρ h.nx d.g.nx) :
  ∃F C G,BJ E.P (lone c cs w) c cs d.ok C G∧VR F d.v C∧HR F d.g.blk.get G∧Ext ρ F (part h d.fp) d.g w G:=by
 have H:EvR ρ t c.eval:=by
  intro x;have:=Js O x;cases x<;>exact this
 unfold Dj at m;split at m
 ·cases m
 ·rename_i Q;have z:=Cd O Q;cases m;exact ⟨ρ,undef,w,Steps.one (Ow J A L z),VR.undef ρ,D,Ext.refl _ _ _⟩
 ·rename_i Q;have z:=Cd O Q;split at m
  ·rename_i I
   have q:∀cl,o.op≠.defer cl:=by
    intro cl e;rw [e] at I;cases I
   simp only at m;split at m
   ·rename_i v g j;cases m;have a:=Ii hE (h:=part h (some (X6 t h o.op))) D H o;rw [show aop E t (part h (some (X6 t h o.op))) o.op=_ from j] at a
    obtain ⟨F,C,G,M,N,R,S⟩:=a p;exact ⟨F,C,G,Steps.one (UH J A L z (.inr q) M),N,R,S⟩
   ·cases m
  ·have s:∀{r:Res},aop E t {h with log:=[]} o.op=r→(∀d g,r≠.defer d g)→(∀y,r≠.bad y)→∀cl,o.op≠.defer cl:=by
    intro r j n1 n2 cl e;rw [e] at j;simp only [aop] at j;rcases DB t cl {h with log:=[]} with ⟨d,V⟩|⟨y,V⟩
    ·exact n1 _ _ (j.symm.trans V)
    ·exact n2 _ (j.symm.trans V)
   split at m
   ·rename_i f args h' j;split at m
    ·rename_i ok v g u;cases m;have a:=Ii hE (h:=part h none) D H o;rw [show aop E t (part h none) o.op=_ from j] at a
     obtain ⟨rfl,B,W,n⟩:=a;have q:=s j (fun _ _ e=>by cases e) (fun _ e=>by cases e)
     obtain ⟨F,C,G,M,N,R,S⟩:=hF.1 f args B (part h none) g ok v ρ w W D (Lp K none) u p c cs;exact ⟨F,C,G,M.head (MD J A L z (.inr q) n),N,R,S⟩
    ·cases m
   ·rename_i l args h' j;split at m
    ·rename_i ok v g u;cases m;have a:=Ii hE (h:=part h none) D H o;rw [show aop E t (part h none) o.op=_ from j] at a
     obtain ⟨rfl,b,B,hb,W,n⟩:=a;have q:=s j (fun _ _ e=>by cases e) (fun _ e=>by cases e)
     obtain ⟨fr,X,Y⟩:=hF.2 l args (part h none) g ok v ρ w D (Lp K none) u p;obtain ⟨fn,tm,assign,body,M,N⟩:=ND (E:=E) (h:=h) D hb (show G1 l args h=some fr from X) W
     obtain ⟨F,C,G,p1,p2,p3,p4⟩:=Y _ N c cs;exact ⟨F,C,G,p1.head (Z9 J A L z (.inr q) (n.trans M)),p2,p3,p4⟩
    ·cases m
   ·rename_i v h' j;cases m;have a:=Ii hE (h:=part h none) D H o;rw [show aop E t (part h none) o.op=_ from j] at a
    obtain ⟨rfl,C,hv,n⟩:=a;have q:=s j (fun _ _ e=>by cases e) (fun _ e=>by cases e)
    refine ⟨ρ,C,w,?_,hv,D,Ext.refl _ _ _⟩;show Steps E.P _ _;have Z:=ZS (cs:=cs) J A L z (.inr q) n;exact Steps.one (Z.trans (by simp [Frame.raise,J]))
   ·cases m
end
end Go.AE
namespace Go.AE
variable [Gl:AC]
variable [U:Unk]
theorem IE {b:Nat}:∀{l:List Nat},Nj b l=true↔b∈l
 |[]=>by simp [Nj]
 |c::r=>by
  simp only [Nj,gk];cases e:Nat.beq b c with
  |true=>simp [Ax e]
  |false=>simp only;rw [IE];simp [WY e]
theorem Ia:∀{l m:List Nat},JX l m=true→∀b∈l,b∉m
 |[],m,_,b,a=>by cases a
 |c::r,m,h,b,a=>by
  simp only [JX] at h;cases e:Nj c m with
  |true=>rw [e] at h;cases h
  |false=>
   rw [e] at h;rcases gk.1 a with rfl|a
   ·exact fun d=>by rw [IE.2 d] at e;cases e
   ·exact Ia h b a
theorem SF {lo hi:Nat}:∀{l:List Nat},Ys lo hi l=true→∀b∈l,¬(lo≤b∧b<hi)
 |[],_,b,a=>by cases a
 |c::r,h,b,a=>by
  simp only [Ys] at h;cases e:Nat.ble lo c&&Nat.blt c hi with
  |true=>rw [e] at h;cases h
  |false=>
   rw [e] at h;rcases gk.1 a with rfl|a
   ·rintro ⟨d,f⟩
    have:(Nat.ble lo b&&Nat.blt b hi)=true:=by simp [Nat.ble_eq,Nat.blt_eq,d,f]
    rw [this] at e;cases e
   ·exact SF h b a
theorem Cu {n b:Nat}:∀{l:List Nat},b∈BF n l↔b∈l∧b<n
 |[]=>by simp [BF]
 |c::r=>by
  simp only [BF];cases e:Nat.blt c n with
  |true=>
   simp only [gk,Cu];have:c<n:=by simpa [Nat.blt_eq] using e
   constructor
   ·rintro (rfl|h)
    ·exact ⟨.inl rfl,this⟩
    ·exact ⟨.inr h.1,h.2⟩
   ·rintro ⟨rfl|h,a⟩
    ·exact .inl rfl
    ·exact .inr ⟨h,a⟩
  |false=>
   simp only [gk,Cu]
   have:¬c<n:=by
    intro h;have:Nat.blt c n=true:=by simpa [Nat.blt_eq] using h
    rw [this] at e;cases e
   constructor
   ·rintro h;exact ⟨.inr h.1,h.2⟩
   ·rintro ⟨rfl|h,a⟩
    ·exact absurd a this
    ·exact ⟨h,a⟩
structure Rc.Apart (x y:Rc):Prop where
 fp1:∀b∈x.wr,∀l,y.fp=some l→b∉l
 fp1n:y.fp=none→x.wr=[]
 fp2:∀b∈y.wr,∀l,x.fp=some l→b∉l
 fp2n:x.fp=none→y.wr=[]
 wr:∀b∈x.wr,b∉y.wr
 out:∀b∈y.wr,¬(x.lo≤b∧b<x.hi)
 look1:∀t,x.dst=some t→t∉y.looks
 look2:∀t,y.dst=some t→t∉x.looks
 dst:∀t,x.dst=some t→y.dst≠some t
theorem KE {w l:List Nat} (h:In w (some l)=true):∀b∈w,b∉l:=Ia h
theorem Rc.apart_ok {x y:Rc} (h:x.apart y=true):x.Apart y:=by
 simp only [Rc.apart,F4,Aed] at h;obtain ⟨⟨⟨⟨⟨⟨I,J⟩,h3⟩,h4⟩,h5⟩,h6⟩,h7⟩:=h;refine ⟨fun b hb l hl=>?_,fun hn=>?_,fun b hb l hl=>?_,fun hn=>?_,Ia h3,SF h4,fun t r hm=>?_,fun t r hm=>?_,fun t r al=>?_⟩
 ·rw [hl] at I;exact KE I b hb
 ·rw [hn] at I;simpa [In] using I
 ·rw [hl] at J;exact KE J b hb
 ·rw [hn] at J;simpa [In] using J
 ·rw [r] at h5;rw [W6,IE.2 hm] at h5;cases h5
 ·rw [r] at h6;rw [W6,IE.2 hm] at h6;cases h6
 ·rw [r,al,Zc,Fr] at h7;cases h7
theorem Xu (m i:Nat):Nat.beq (m/2^i%2) 1=m.testBit i:=by
 rw [Nat.testBit_eq_decide_div_mod_eq];by_cases h:m/2^i%2=1
 ·rw [h];rfl
 ·rw [GO h];simp [h]
theorem KR {y:Rc}:∀{l:List Rc} {p:Nat},De y l p=true→∀i x,l[i]?=some x→y.mask.testBit (p+i)=true∨x.Apart y
 |[],p,h,i,x,a=>by cases a
 |c::r,p,h,i,x,a=>by
  simp only [De,Xu] at h;cases e:y.mask.testBit p||c.apart y with
  |false=>rw [e] at h;cases h
  |true=>
   rw [e] at h;cases i with
   |zero=>
    simp only [No,C2] at a;subst a;rcases Bool.or_eq_true_iff.1 e with e|e
    ·exact .inl e
    ·exact .inr (Rc.apart_ok e)
   |succ i=>
    have:=KR h i x (by simpa using a)
    rw [show p+(i+1)=p+1+i by omega]
    exact this
theorem DP {recs:List Rc}:∀{j:List Edge} {m:Nat},BM recs j=some m→
  (∀e∈j,Region.binds .any e=true→∃x,recs[e.on]?=some x)∧
  ∀i,m.testBit i=true↔∃e∈j,Region.binds .any e=true∧∃x,recs[e.on]?=some x∧(x.mask.testBit i=true∨i=e.on)
 |[],m,h=>by
  simp only [BM,C2] at h;subst h;simp
 |e::r,m,h=>by
  simp only [BM] at h;cases k:BM recs r with
  |none=>rw [k] at h;cases h
  |some m1=>
   rw [k] at h;obtain ⟨n,o⟩:=DP k;simp only at h;cases f:Region.binds .any e with
   |false=>
    rw [f] at h;simp only [C2] at h;subst h;refine ⟨fun a c b=>?_,fun i=>?_⟩
    ·rcases gk.1 c with rfl|c
     ·rw [f] at b;cases b
     ·exact n a c b
    ·rw [o];constructor
     ·rintro ⟨a,c,d⟩;exact ⟨a,by simp [c],d⟩
     ·rintro ⟨a,c,b,d⟩
      rcases gk.1 c with rfl|c
      ·rw [f] at b;cases b
      ·exact ⟨a,c,b,d⟩
   |true=>
    rw [f] at h;simp only at h;cases g:recs[e.on]? with
    |none=>rw [g] at h;cases h
    |some x=>
     rw [g] at h;simp only [C2] at h;subst h;refine ⟨fun a c b=>?_,fun i=>?_⟩
     ·rcases gk.1 c with rfl|c
      ·exact ⟨x,g⟩
      ·exact n a c b
     ·simp only [Nat.testBit_or,vy,Nat.testBit_two_pow,ll,o];constructor
      ·rintro ((⟨a,c,d⟩|h)|h)
       ·exact ⟨a,by simp [c],d⟩
       ·exact ⟨e,by simp,f,x,g,.inl h⟩
       ·exact ⟨e,by simp,f,x,g,.inr h.symm⟩
      ·rintro ⟨a,c,b,y,l,d⟩
       rcases gk.1 c with rfl|c
       ·rw [g] at l;cases l;rcases d with d|d
        ·exact .inl (.inr d)
        ·exact .inr d.symm
       ·exact .inl (.inl ⟨a,c,b,y,l,d⟩)
theorem FM (blk g:T Am):∀(l:List Nat) (b:Nat),(b∉l→(G6 blk g l).get b=blk.get b)∧(b∈l→(G6 blk g l).get b=none∨(blk.get b≠none∧(G6 blk g l).get b=g.get b))
 |[],b=>⟨fun _=>rfl,(fun h=>by cases h)⟩
 |c::r,b=>by
  have ih:=FM blk g r b;simp only [G6];split
  ·rename_i x y a d;rw [T.get_set];refine ⟨fun h=>?_,fun h=>?_⟩
   ·rw [if_neg (by rintro rfl;simp at h)];exact ih.1 (by simp at h;exact h.2)
   ·by_cases e:c=b
    ·subst e;rw [if_pos rfl];exact .inr ⟨(by rw [d];exact F0 _),a.symm⟩
    ·rw [if_neg e];exact ih.2 ((gk.1 h).resolve_left (fun q=>e q.symm))
  ·rw [T.get_del];refine ⟨fun h=>?_,fun h=>?_⟩
   ·rw [if_neg (by rintro rfl;simp at h)];exact ih.1 (by simp at h;exact h.2)
   ·by_cases e:c=b
    ·subst e;rw [if_pos rfl];exact .inl rfl
    ·rw [if_neg e];exact ih.2 ((gk.1 h).resolve_left (fun q=>e q.symm))
theorem FU (blk g:T Am):∀(n i b:Nat),(Iu blk g i n).get b=if i≤b∧b<i+n∧g.get b≠none then g.get b else blk.get b
 |0,i,b=>by
  simp only [Iu];rw [if_neg (by omega)]
 |n+1,i,b=>by
  have ih:=FU blk g n (i+1) b;simp only [Iu];cases a:g.get i with
  |none=>
   simp only;rw [ih];by_cases e:i=b
   ·subst e;rw [if_neg (by omega),if_neg (by rintro ⟨_,_,h⟩;exact h a)]
   ·by_cases q:i+1≤b∧b<i+1+n∧g.get b≠none
    ·rw [if_pos q,if_pos ⟨by omega,by omega,q.2.2⟩]
    ·rw [if_neg q,if_neg (by rintro ⟨d,f,c⟩;exact q ⟨by omega,by omega,c⟩)]
  |some x=>
   simp only [T.get_set];by_cases e:i=b
   ·subst e;rw [if_pos rfl,if_pos ⟨by omega,by omega,(by rw [a];exact F0 _)⟩,a]
   ·rw [if_neg e,ih];by_cases q:i+1≤b∧b<i+1+n∧g.get b≠none
    ·rw [if_pos q,if_pos ⟨by omega,by omega,q.2.2⟩]
    ·rw [if_neg q,if_neg (by rintro ⟨d,f,c⟩;exact q ⟨by omega,by omega,c⟩)]
section
variable {h g:Aa}
theorem CO (c:h.nx≤g.nx) {b:Nat} (a:b∉BF h.nx g.log) (d:b<h.nx∨g.nx≤b):(AY h g).blk.get b=h.blk.get b:=by
 simp only [AY,FU];rw [if_neg (by omega)]
 exact (FM _ _ _ b).1 a
theorem Hl {b:Nat} (a:b∈BF h.nx g.log):(AY h g).blk.get b=none∨(h.blk.get b≠none∧(AY h g).blk.get b=g.blk.get b):=by
 have c:=(Cu.1 a).2;simp only [AY,FU];rw [if_neg (by omega)]
 exact (FM _ _ _ b).2 a
theorem Ib (c:WF h) (f:h.nx≤g.nx) {b:Nat} (a:h.nx≤b) (i:b<g.nx):(AY h g).blk.get b=g.blk.get b:=by
 simp only [AY,FU];have d:b∉BF h.nx g.log:=fun e=>by have:=(Cu.1 e).2;omega
 cases j:g.blk.get b with
 |none=>
  rw [if_neg (by rintro ⟨_,_,h⟩;exact h rfl),(FM _ _ _ b).1 d,c b a]
 |some x=>rw [if_pos ⟨a,by omega,fun e=>by cases e⟩]
theorem Hs (c:WF h) (d:h.nx≤g.nx):WF (AY h g):=by
 intro b f;have a:g.nx≤b:=f;rw [CO d (fun e=>by have:=(Cu.1 e).2;omega) (.inr a)]
 exact c b (by omega)
theorem G5 (e:WF h) (d:h.nx≤g.nx) {b:Nat} (a:(AY h g).blk.get b≠none):h.blk.get b≠none∨(h.nx≤b∧b<g.nx):=by
 by_cases f:b<h.nx
 ·by_cases c:b∈BF h.nx g.log
  ·rcases Hl c with q|⟨q,_⟩
   ·exact absurd q a
   ·exact .inl q
  ·rw [CO d c (.inl f)] at a;exact .inl a
 ·by_cases c:b<g.nx
  ·exact .inr ⟨by omega,c⟩
  ·exact absurd (Hs e d b (by show g.nx≤b;omega)) a
end
end Go.AE
namespace Go.AE
variable [Gl:AC]
variable [U:Unk]
structure Tx (E:Env) (callF:Ask→Aa→Option (Bool×AV×Aa)) (all:Array Oper) (H:Nat→Aa) (Tm:Nat→T AV) (R:Nat→Rc) (Dd:Nat→Did) (j:Nat) (o:Oper):Prop where
 mask:BM ((List.range j).map R) o.after.toList=some (R j).mask
 did:Dj E callF all o (A1 (Tm j) (Bk all o)) (H j)=some (Dd j)
 nx:(H j).nx≤(Dd j).g.nx
structure Good (E:Env) (callF:Ask→Aa→Option (Bool×AV×Aa)) (all:Array Oper) (nt:Nat) (H:Nat→Aa) (Tm:Nat→T AV) (R:Nat→Rc) (Dd:Nat→Did) (j:Nat) (o:Oper):Prop where
 tx:Tx E callF all H Tm R Dd j o
 wr:(R j).wr=BF (H j).nx (Dd j).g.log
 fp:(R j).fp=(Dd j).fp
 lo:(R j).lo=(H j).nx
 hi:(R j).hi=(Dd j).g.nx
 dst:(R j).dst=o.dst
 looks:(R j).looks=Bk all o
 apart:De (R j) ((List.range j).map R) 0=true
 put:Ey nt (Tm j) o.dst (Dd j).v=some (Tm (j+1))
 heap:H (j+1)=AY (H j) (Dd j).g
 ok:(Dd j).ok=true
structure Bad (E:Env) (callF:Ask→Aa→Option (Bool×AV×Aa)) (all:Array Oper) (H:Nat→Aa) (Tm:Nat→T AV) (R:Nat→Rc) (Dd:Nat→Did) (j:Nat) (o:Oper) (rest:List Oper):Prop where
 tx:Tx E callF all H Tm R Dd j o
 ok:(Dd j).ok=false
 all:(R j).mask+1=2^j
 after:∃recs:List Rc,recs.length=j∧recs=(List.range j).map R∧Fw (recs++[{wr:=[],fp:=none,lo:=0,hi:=0,dst:=none,looks:=[],mask:=(R j).mask}]) j rest=true
section
variable {E:Env} {callF:Ask→Aa→Option (Bool×AV×Aa)} {all:Array Oper} {nt:Nat}
theorem Jv {b:Type} {R:Nat→b} {a:List b} (h:∀i x,a[i]?=some x→R i=x):(List.range a.length).map R=a:=by
 apply List.ext_getElem (by simp)
 intro i d c;simp only [List.getElem_map,List.getElem_range];exact h i _ (by simp [c])
theorem I3:∀(l:List Oper) (a:List Rc) (tmps:T AV) (h:Aa) (r:Option AV) (f:T AV) (h':Aa),BY E callF all nt l a tmps h=some (r,f,h')→
  ∃H A R F m,(∀i x,a[i]?=some x→R i=x)∧H a.length=h∧A a.length=tmps∧(∀i,i<m→∃o,l[i]?=some o∧Good E callF all nt H A R F (a.length+i) o)∧
   (r=none→m=l.length∧f=A (a.length+m)∧h'=H (a.length+m))∧
   (∀v,r=some v→∃o,l[m]?=some o∧Bad E callF all H A R F (a.length+m) o (l.drop (m+1))∧v=(F (a.length+m)).v∧f=A (a.length+m)∧h'=AY (H (a.length+m)) (F (a.length+m)).g)
 |[],a,tmps,h,r,f,h',c=>by
  simp only [BY,C2,hS] at c;obtain ⟨rfl,rfl,rfl⟩:=c;exact ⟨fun _=>h,fun _=>tmps,fun i=>a.getD i default,fun _=>default,0,fun i x B=>by simp [B],rfl,rfl,fun i hi=>absurd hi (hH _),fun _=>⟨rfl,rfl,rfl⟩,(fun v K=>by cases K)⟩
 |o::rest,a,tmps,h,r,f,h',c=>by
  simp only [BY] at c;cases s:BM a o.after.toList with
  |none=>rw [s] at c;cases c
  |some mask=>
   rw [s] at c;simp only at c;cases z:Dj E callF all o (A1 tmps (Bk all o)) h with
   |none=>rw [z] at c;cases c
   |some d=>
    rw [z] at c;simp only at c;cases G:Nat.ble h.nx d.g.nx with
    |false=>rw [G] at c;cases c
    |true=>
     have N:h.nx≤d.g.nx:=hP G;cases I:d.ok with
     |true=>
      rw [G,I] at c;simp only at c;cases L:De {wr:=BF h.nx d.g.log,fp:=d.fp,lo:=h.nx,hi:=d.g.nx,dst:=o.dst,looks:=Bk all o,mask} a 0 with
      |false=>rw [L] at c;cases c
      |true=>
       rw [L] at c;simp only at c;cases C:Ey nt tmps o.dst d.v with
       |none=>rw [C] at c;cases c
       |some t1=>
        rw [C] at c;simp only at c;obtain ⟨H,A,R,F,m,Y,Z,q3,q4,q5,q6⟩:=I3 rest _ t1 _ r f h' c;have hl:(a++[({wr:=BF h.nx d.g.log,fp:=d.fp,lo:=h.nx,hi:=d.g.nx,dst:=o.dst,looks:=Bk all o,mask}:Rc)]).length=a.length+1:=by simp
        rw [hl] at Z q3 q4 q5 q6;have hR:R a.length={wr:=BF h.nx d.g.log,fp:=d.fp,lo:=h.nx,hi:=d.g.nx,dst:=o.dst,looks:=Bk all o,mask}:=Y _ _ (by simp)
        have k:∀i x,a[i]?=some x→R i=x:=fun i x B=>Y i x (by rw [R2 (Id.1 B).1];exact B)
        have D:=Jv k;have q:∀j,a.length+1≤j→(fun i=>if i≤a.length then h else H i) j=H j:=fun j n=>if_neg (by omega)
        have w:∀j,a.length+1≤j→(fun i=>if i≤a.length then tmps else A i) j=A j:=fun j n=>if_neg (by omega)
        have p:∀j,a.length+1≤j→(fun i=>if i≤a.length then d else F i) j=F j:=fun j n=>if_neg (by omega)
        have y:(fun i=>if i≤a.length then h else H i) a.length=h:=if_pos (IqQ _)
        have J:(fun i=>if i≤a.length then tmps else A i) a.length=tmps:=if_pos (IqQ _)
        have u:(fun i=>if i≤a.length then d else F i) a.length=d:=if_pos (IqQ _)
        generalize (fun i=>if i≤a.length then h else H i)=Q at q y
        generalize (fun i=>if i≤a.length then tmps else A i)=O at w J
        generalize (fun i=>if i≤a.length then d else F i)=M at p u
        have P:∀j x,a.length+1≤j→Tx E callF all H A R F j x→Tx E callF all Q O R M j x:=by
         intro j x n t;refine ⟨t.mask,?_,?_⟩
         ·rw [w j n,q j n,p j n];exact t.did
         ·rw [q j n,p j n];exact t.nx
        have e:∀i,a.length+(i+1)=a.length+1+i:=fun i=>by omega
        refine ⟨Q,O,R,M,m+1,k,y,J,?_,?_,?_⟩
        ·intro i hi;cases i with
         |zero=>
          refine ⟨o,rfl,⟨⟨?_,?_,?_⟩,?_,?_,?_,?_,?_,?_,?_,?_,?_,?_⟩⟩
          ·rw [n0,D,hR];exact s
          ·rw [n0,J,y,u];exact z
          ·rw [n0,y,u];exact N
          ·rw [n0,hR,y,u]
          ·rw [n0,hR,u]
          ·rw [n0,hR,y]
          ·rw [n0,hR,u]
          ·rw [n0,hR]
          ·rw [n0,hR]
          ·rw [n0,D,hR];exact L
          ·rw [n0,J,u,w _ (IqQ _),q3];exact C
          ·show Q (a.length+1)=AY (Q a.length) (M a.length).g;rw [y,u,q _ (IqQ _),Z]
          ·rw [n0,u];exact I
         |succ i=>
          obtain ⟨x,B,g⟩:=q4 i (by omega)
          have n:a.length+1≤a.length+1+i:=by omega
          refine ⟨x,by simpa using B,?_⟩
          rw [e];refine ⟨P _ _ n g.tx,?_,?_,?_,?_,g.dst,g.looks,g.apart,?_,?_,?_⟩
          ·rw [q _ n,p _ n];exact g.wr
          ·rw [p _ n];exact g.fp
          ·rw [q _ n];exact g.lo
          ·rw [p _ n];exact g.hi
          ·rw [w _ n,p _ n,w _ (by omega)];exact g.put
          ·rw [q _ n,p _ n,q _ (by omega)];exact g.heap
          ·rw [p _ n];exact g.ok
        ·intro hr;obtain ⟨S,V,W⟩:=q5 hr;refine ⟨by simp [S],?_,?_⟩
         ·rw [e,w _ (by omega)];exact V
         ·rw [e,q _ (by omega)];exact W
        ·intro v K;obtain ⟨x,B,b,S,V,W⟩:=q6 v K;have n:a.length+1≤a.length+1+m:=by omega
         refine ⟨x,by simpa using B,?_,?_,?_,?_⟩
         ·rw [e];exact ⟨P _ _ n b.tx,by rw [p _ n];exact b.ok,b.all,by simpa using b.after⟩
         ·rw [e,p _ n];exact S
         ·rw [e,w _ n];exact V
         ·rw [e,q _ n,p _ n];exact W
     |false=>
      rw [G,I] at c;simp only at c;cases X:Nat.beq (mask+1) (2^a.length)&&Fw (a++[{wr:=[],fp:=none,lo:=0,hi:=0,dst:=none,looks:=[],mask}]) a.length rest with
      |false=>rw [X] at c;cases c
      |true=>
       rw [X] at c;simp only [C2,hS] at c;obtain ⟨rfl,rfl,rfl⟩:=c;obtain ⟨c1,c2⟩:=Au X
       have k:∀i x,a[i]?=some x→(fun i=>if i<a.length then a.getD i default else ({wr:=[],fp:=none,lo:=0,hi:=0,dst:=none,looks:=[],mask}:Rc)) i=x:=by
        intro i x B;have:=(Id.1 B).1;simp only [this,if_true];simp [B]
       have hR:(fun i=>if i<a.length then a.getD i default else ({wr:=[],fp:=none,lo:=0,hi:=0,dst:=none,looks:=[],mask}:Rc)) a.length={wr:=[],fp:=none,lo:=0,hi:=0,dst:=none,looks:=[],mask}:=if_neg (Nat.lt_irrefl _)
       generalize (fun i=>if i<a.length then a.getD i default else ({wr:=[],fp:=none,lo:=0,hi:=0,dst:=none,looks:=[],mask}:Rc))=R at k hR
       have D:=Jv k;refine ⟨fun _=>h,fun _=>tmps,R,fun _=>d,0,k,rfl,rfl,fun i hi=>absurd hi (hH _),(fun K=>by cases K),fun v K=>?_⟩
       cases K;refine ⟨o,rfl,⟨⟨?_,z,N⟩,I,?_,a,rfl,?_,?_⟩,rfl,rfl,rfl⟩
       ·rw [n0,D,hR];exact s
       ·show (R a.length).mask+1=2^a.length;rw [hR];exact Ax c1
       ·rw [n0,D]
       ·rw [n0,hR];simpa using c2
end
end Go.AE
namespace Go.AE
variable [Gl:AC]
variable [U:Unk]
def ins (D:Nat→Bool) (j:Nat):Nat→Bool:=fun i=>if i=j then true else D i
def Cn (H:Nat→Aa) (R:Nat→Rc) (D:Nat→Bool):Nat→Nat→Option Am
 |0,b=>(H 0).blk.get b
 |j+1,b=>if D j=true∧(b∈(R j).wr∨((R j).lo≤b∧b<(R j).hi)) then (H (j+1)).blk.get b else Cn H R D j b
def Tn (a:Nat→T AV) (R:Nat→Rc) (D:Nat→Bool):Nat→Tmp→Option AV
 |0,t=>(a 0).get t
 |j+1,t=>if D j=true∧(R j).dst=some t then (a (j+1)).get t else Tn a R D j t
structure Cc (E:Env) (callF:Ask→Aa→Option (Bool×AV×Aa)) (all:Array Oper) (nt:Nat) (H:Nat→Aa) (Tm:Nat→T AV) (R:Nat→Rc) (Dd:Nat→Did) (n:Nat):Prop where
 good:∀j,j<n→∃o,all[j]?=some o∧Good E callF all nt H Tm R Dd j o
 wf:WF (H 0)
section
variable {E:Env} {callF:Ask→Aa→Option (Bool×AV×Aa)} {all:Array Oper} {nt:Nat} {H:Nat→Aa} {Tm:Nat→T AV} {R:Nat→Rc} {Dd:Nat→Did} {n:Nat}
 (X:Cc E callF all nt H Tm R Dd n)
include X
theorem Cc.hi {j:Nat} (l:j<n):(H (j+1)).nx=(R j).hi:=by
 obtain ⟨o,_,g⟩:=X.good j l;rw [g.heap,g.hi];rfl
theorem Cc.lo {j:Nat} (l:j<n):(R j).lo=(H j).nx:=by
 obtain ⟨o,_,g⟩:=X.good j l;exact g.lo
theorem Cc.le {j:Nat} (l:j<n):(R j).lo≤(R j).hi:=by
 obtain ⟨o,_,g⟩:=X.good j l;rw [g.lo,g.hi];exact g.tx.nx
theorem Cc.mono {i:Nat}:∀{j:Nat},i≤j→j≤n→(H i).nx≤(H j).nx
 |0,l,_=>by rw [Nat.le_zero.1 l];exact IqQ _
 |j+1,l,r=>by
  rcases gg i (j+1) with h|h
  ·have:=Cc.mono (i:=i) (j:=j) (by omega) (by omega)
   have t:=X.hi (j:=j) (by omega)
   have I:=X.lo (j:=j) (by omega)
   have J:=X.le (j:=j) (by omega)
   omega
  ·have:i=j+1:=by omega
   rw [this];exact IqQ _
theorem Cc.wfAt:∀{j:Nat},j≤n→WF (H j)
 |0,_=>X.wf
 |j+1,l=>by
  obtain ⟨o,_,g⟩:=X.good j (by omega)
  rw [g.heap];exact Hs (Cc.wfAt (j:=j) (by omega)) g.tx.nx
theorem Cc.bits {j:Nat} (I:j<n):∀{i:Nat},(R j).mask.testBit i=true→i<j:=by
 induction j using Nat.strongRecOn with
 |ind j ih=>
  intro i hi;obtain ⟨o,_,g⟩:=X.good j I;obtain ⟨e,J,hb,x,r,h⟩:=((DP g.tx.mask).2 i).1 hi
  have l:e.on<j:=by
   have:=(Id.1 r).1;simpa using this
  have t:x=R e.on:=by
   rw [sd,Aej l] at r;simpa using r.symm
  rcases h with h|h
  ·rw [t] at h;have:=ih e.on l (by omega) h
   omega
  ·omega
theorem Cc.apart {i j:Nat} (l:i<j) (r:j<n) (t:(R j).mask.testBit i=false):(R i).Apart (R j):=by
 obtain ⟨o,_,g⟩:=X.good j r;rcases KR g.apart i (R i) (by rw [sd,Aej l];rfl) with h|h
 ·rw [pc,t] at h;cases h
 ·exact h
theorem Cc.stay {j:Nat} (r:j<n) {b:Nat} (l:b∉(R j).wr) (t:¬((R j).lo≤b∧b<(R j).hi)):(H (j+1)).blk.get b=(H j).blk.get b:=by
 obtain ⟨o,_,g⟩:=X.good j r;rw [g.wr] at l;rw [g.lo,g.hi] at t;rw [g.heap];exact CO g.tx.nx l (by omega)
theorem Cc.wr_lt {j:Nat} (r:j<n) {b:Nat} (l:b∈(R j).wr):b<(H j).nx:=by
 obtain ⟨o,_,g⟩:=X.good j r;rw [g.wr] at l;exact (Cu.1 l).2
theorem Cc.cn_text {D:Nat→Bool} {b:Nat}:∀{m:Nat},m≤n→(∀i,i<m→D i=false→b∉(R i).wr∧¬((R i).lo≤b∧b<(R i).hi))→Cn H R D m b=(H m).blk.get b
 |0,_,_=>rfl
 |m+1,t,h=>by
  simp only [Cn];by_cases l:D m=true∧(b∈(R m).wr∨((R m).lo≤b∧b<(R m).hi))
  ·rw [if_pos l]
  ·rw [if_neg l,Cc.cn_text (m:=m) (by omega) fun i hi=>h i (by omega)]
   have:b∉(R m).wr∧¬((R m).lo≤b∧b<(R m).hi):=by
    cases r:D m with
    |false=>exact h m (by omega) r
    |true=>exact ⟨fun q=>l ⟨r,.inl q⟩,fun q=>l ⟨r,.inr q⟩⟩
   exact (X.stay (by omega) this.1 this.2).symm
omit X in
theorem LA {D:Nat→Bool} {b j:Nat}:∀{m:Nat},j≤m→(∀i,j≤i→i<m→D i=true→b∉(R i).wr∧¬((R i).lo≤b∧b<(R i).hi))→Cn H R D m b=Cn H R D j b
 |0,hj,_=>by rw [Nat.le_zero.1 hj]
 |m+1,hj,h=>by
  rcases gg j (m+1) with hlt|hge
  ·simp only [Cn];rw [if_neg,LA (by omega) fun i h1 h2=>h i h1 (by omega)]
   rintro ⟨hD,q⟩
   obtain ⟨a1,a2⟩:=h m (by omega) (by omega) hD
   exact q.elim a1 a2
  ·rw [show j=m+1 by omega]
omit X in
theorem ai {D:Nat→Bool} {b j:Nat} (hD:D j=false) (h1:b∉(R j).wr) (h2:¬((R j).lo≤b∧b<(R j).hi)):∀m,Cn H R (ins D j) m b=Cn H R D m b
 |0=>rfl
 |m+1=>by
  simp only [Cn];rw [ai hD h1 h2 m];by_cases e:m=j
  ·subst e;rw [if_neg (by rintro ⟨_,q⟩;exact q.elim h1 h2),if_neg (by rintro ⟨q,_⟩;rw [hD] at q;cases q)]
  ·simp [ins,e]
omit X in
theorem WS {D:Nat→Bool} {b j m:Nat} (hjm:j<m) (h1:b∈(R j).wr∨((R j).lo≤b∧b<(R j).hi)) (h2:∀i,j<i→i<m→D i=true→b∉(R i).wr∧¬((R i).lo≤b∧b<(R i).hi)) :
  Cn H R (ins D j) m b=(H (j+1)).blk.get b:=by
 rw [LA (j:=j+1) hjm fun i a1 a2 hD=>h2 i a1 a2 (by simpa [ins,show i≠j by omega] using hD)]
 simp only [Cn];rw [if_pos ⟨by simp [ins],h1⟩]
theorem Cc.tput {j:Nat} (hj:j<n) {t:Tmp} (r:(R j).dst≠some t):(Tm (j+1)).get t=(Tm j).get t:=by
 obtain ⟨o,_,g⟩:=X.good j hj;have l:=g.put;rw [g.dst] at r;unfold Ey at l;split at l
 ·rename_i d I;split at l
  ·simp only [C2] at l;rw [←l,T.get_set,if_neg]
   rintro rfl;exact r I
  ·cases l
 ·simp only [C2] at l;rw [l]
theorem Cc.tn_text {D:Nat→Bool} {t:Tmp}:∀{m:Nat},m≤n→(∀i,i<m→D i=false→(R i).dst≠some t)→Tn Tm R D m t=(Tm m).get t
 |0,_,_=>rfl
 |m+1,r,h=>by
  simp only [Tn];by_cases l:D m=true∧(R m).dst=some t
  ·rw [if_pos l]
  ·rw [if_neg l,Cc.tn_text (m:=m) (by omega) fun i hi=>h i (by omega)]
   refine (X.tput (by omega) ?_).symm
   cases hD:D m with
   |false=>exact h m (by omega) hD
   |true=>exact fun q=>l ⟨hD,q⟩
omit X in
theorem LG {D:Nat→Bool} {t:Tmp} {j:Nat}:∀{m:Nat},j≤m→(∀i,j≤i→i<m→D i=true→(R i).dst≠some t)→Tn Tm R D m t=Tn Tm R D j t
 |0,hj,_=>by rw [Nat.le_zero.1 hj]
 |m+1,hj,h=>by
  rcases gg j (m+1) with hlt|hge
  ·simp only [Tn];rw [if_neg,LG (by omega) fun i h1 h2=>h i h1 (by omega)]
   rintro ⟨hD,q⟩
   exact h m (by omega) (by omega) hD q
  ·rw [show j=m+1 by omega]
omit X in
theorem XH {D:Nat→Bool} {t:Tmp} {j:Nat} (hD:D j=false) (h1:(R j).dst≠some t):∀m,Tn Tm R (ins D j) m t=Tn Tm R D m t
 |0=>rfl
 |m+1=>by
  simp only [Tn];rw [XH hD h1 m];by_cases e:m=j
  ·subst e;rw [if_neg (by rintro ⟨_,q⟩;exact h1 q),if_neg (by rintro ⟨q,_⟩;rw [hD] at q;cases q)]
  ·simp [ins,e]
omit X in
theorem Xc {D:Nat→Bool} {t:Tmp} {j m:Nat} (hjm:j<m) (h1:(R j).dst=some t) (h2:∀i,j<i→i<m→D i=true→(R i).dst≠some t):Tn Tm R (ins D j) m t=(Tm (j+1)).get t:=by
 rw [LG (j:=j+1) hjm fun i a1 a2 hD=>h2 i a1 a2 (by simpa [ins,show i≠j by omega] using hD)]
 simp only [Tn];rw [if_pos ⟨by simp [ins],h1⟩]
end
end Go.AE
namespace Go.AE
variable [Gl:AC]
variable [U:Unk]
theorem HR.weaken {ρ:Ren} {g t:Nat→Option Am} {w:World} (h:HR ρ g w) (J:∀b x,ρ b≠none→t b=some x→g b=some x):HR ρ t w:=by
 refine ⟨h.lt,fun b base x r l=>h.blk b base x r (J b x (by rw [r];exact F0 _) l),fun b b' base base' al r I h1 h2=>h.apart b b' base base' al r I ?_ ?_,h.imm,fun k arr b base hk r hl=>h.off k arr b base hk r ?_,h.glob⟩
 ·cases l:t b with
  |none=>exact absurd l h1
  |some x=>rw [J b x (by rw [r];exact F0 _) l];exact F0 _
 ·cases l:t b' with
  |none=>exact absurd l h2
  |some x=>rw [J b' x (by rw [I];exact F0 _) l];exact F0 _
 ·cases l:t b with
  |none=>exact absurd l hl
  |some x=>rw [J b x (by rw [r];exact F0 _) l];exact F0 _
structure Inv (nt:Nat) (H:Nat→Aa) (Tm:Nat→T AV) (R:Nat→Rc) (n M:Nat) (ρ0:Ren) (w0:World) (D:Nat→Bool) (ρ:Ren) (tm:Array Value) (w:World):Prop where
 sub:∀j,D j=true→j<n
 closed:∀j,D j=true→∀i,(R j).mask.testBit i=true→D i=true
 size:tm.size=nt
 tmp:∀t x,Tn Tm R D n t=some x→VR ρ x (tm.getD t undef)
 heap:HR ρ (Cn H R D n) w
 free:∀b,(H 0).nx≤b→b<M→ρ b≠none→∃j,D j=true∧(R j).lo≤b∧b<(R j).hi
 le:ρ0.le ρ
 calm:G8 w0 w
 new:∀b base,ρ b=some base→ρ0 b=some base∨((H 0).nx≤b∧b<(H n).nx∧(w0.heap.size≤base.cb∨∃b0 base0,ρ0 b0=some base0∧(H 0).blk.get b0≠none∧base0.cb=base.cb))
 kept:∀k,k<w0.heap.size→(∀b base,ρ0 b=some base→(H 0).blk.get b≠none→base.cb≠k)→w.heap[k]?=w0.heap[k]?
 imm:∀k arr,ρ.imm k=some arr→ρ0.imm k=some arr∨w0.heap.size≤k∨∃b0 base0,ρ0 b0=some base0∧(H 0).blk.get b0≠none∧base0.cb=k
section
variable {E:Env} {callF:Ask→Aa→Option (Bool×AV×Aa)} {all:Array Oper} {nt:Nat} {H:Nat→Aa} {Tm:Nat→T AV} {R:Nat→Rc} {Dd:Nat→Did} {n M:Nat}
 {ρ0 ρ:Ren} {w0 w:World} {tm:Array Value} {D:Nat→Bool} (X:Cc E callF all nt H Tm R Dd n)
include X
theorem Cc.live {b:Nat} (l:b<(H 0).nx):∀{j:Nat},j≤n→(H j).blk.get b≠none→(H 0).blk.get b≠none
 |0,_,h=>h
 |j+1,r,h=>by
  obtain ⟨o,_,g⟩:=X.good j (by omega)
  rw [g.heap] at h;have:=X.mono (i:=0) (j:=j) (by omega) (by omega)
  rcases G5 (X.wfAt (by omega)) g.tx.nx h with h|h
  ·exact Cc.live l (j:=j) (by omega) h
  ·omega
theorem Cc.cn_live {b:Nat} (l:b<(H 0).nx):∀{m:Nat},m≤n→Cn H R D m b≠none→(H 0).blk.get b≠none
 |0,_,h=>h
 |m+1,r,h=>by
  simp only [Cn] at h;split at h
  ·exact X.live l (by omega) h
  ·exact Cc.cn_live l (m:=m) (by omega) h
theorem Cc.disj {i j b:Nat} (hi:i<n) (l:j<n) (r:(R i).lo≤b∧b<(R i).hi) (t:(R j).lo≤b∧b<(R j).hi):i=j:=by
 rcases Nat.lt_trichotomy i j with h|h|h
 ·have:=X.mono (i:=i+1) (j:=j) (by omega) (by omega)
  have a:=X.hi hi;have c:=X.lo l;omega
 ·exact h
 ·have:=X.mono (i:=j+1) (j:=i) (by omega) (by omega)
  have a:=X.hi l;have c:=X.lo hi;omega
theorem Cc.agree (I:Inv nt H Tm R n M ρ0 w0 D ρ tm w) (hM:(H n).nx≤M) {j:Nat} (hj:j<n) (hD:D j=false) (al:∀i,(R j).mask.testBit i=true→D i=true) {b:Nat} {x:Am} (hb:ρ b≠none)
  (hx:(part (H j) (Dd j).fp).blk.get b=some x):Cn H R D n b=some x:=by
 obtain ⟨o,ho,g⟩:=X.good j hj
 have J:(H j).blk.get b=some x∧(∀l,(R j).fp=some l→b∈l):=by
  rw [g.fp];cases r:(Dd j).fp with
  |none=>rw [r] at hx;exact ⟨hx,(fun l hl=>by cases hl)⟩
  |some be=>
   rw [r] at hx;rcases Dx (H j) be b with q|⟨q1,q2⟩
   ·simp only [part] at hx;rw [q] at hx;cases hx
   ·exact ⟨q2▸hx,fun l hl=>by cases hl;exact q1⟩
 have bn:b<(H j).nx:=by
  rcases gg b (H j).nx with h|h
  ·exact h
  ·rw [X.wfAt (by omega) b h] at J;cases J.1
 have ar:∀i,i<n→i≠j→(i<j→(R j).mask.testBit i=false)→(j<i→(R i).mask.testBit j=false)→b∉(R i).wr:=by
  intro i hi av h1 h2 hm;rcases gg i j with h|h
  ·have a:=X.apart h hj (h1 h);cases r:(R j).fp with
   |none=>rw [a.fp1n r] at hm;cases hm
   |some l=>exact a.fp1 b hm l r (J.2 l r)
  ·have a:=X.apart (show j<i by omega) hi (h2 (by omega))
   cases r:(R j).fp with
   |none=>rw [a.fp2n r] at hm;cases hm
   |some l=>exact a.fp2 b hm l r (J.2 l r)
 have hC:Cn H R D n b=Cn H R D j b:=by
  refine LA (by omega) fun i h1 h2 t=>?_
  have av:i≠j:=by rintro rfl;rw [hD] at t;cases t
  refine ⟨ar i h2 av (fun h=>by omega) fun h=>?_,?_⟩
  ·cases hb:(R i).mask.testBit j with
   |false=>rfl
   |true=>rw [I.closed i t j hb] at hD;cases hD
  ·have:=X.mono (i:=j) (j:=i) h1 (by omega)
   have:=X.lo h2;omega
 rw [hC,X.cn_text (by omega) fun i hi t=>?_,J.1]
 refine ⟨ar i (by omega) (by omega) (fun h=>?_) (fun h=>by omega),fun bd=>?_⟩
 ·cases hb:(R j).mask.testBit i with
  |false=>rfl
  |true=>rw [al i hb] at t;cases t
 ·have bs:=X.lo (show i<n by omega)
  have h0:=X.mono (i:=0) (j:=i) (by omega) (by omega)
  have h1:=X.mono (i:=j) (j:=n) (by omega) (by omega)
  obtain ⟨j',an,bm⟩:=I.free b (by omega) (by omega) hb
  have:=X.disj (show i<n by omega) (I.sub j' an) bd bm
  subst this;rw [t] at an;cases an
theorem Cc.tagree (I:Inv nt H Tm R n M ρ0 w0 D ρ tm w) {j:Nat} (hj:j<n) (J:D j=false) (r:∀i,(R j).mask.testBit i=true→D i=true):TR ρ nt (A1 (Tm j) (R j).looks) tm:=by
 refine ⟨I.size,fun t x hx=>?_⟩
 obtain ⟨hl,y,hy,rfl⟩:=DA _ _ _ _ hx;refine O2 (I.tmp t y ?_)
 have hT:Tn Tm R D n t=Tn Tm R D j t:=by
  refine LG (by omega) fun i h1 h2 l hd=>?_
  have al:i≠j:=by rintro rfl;rw [J] at l;cases l
  have a:=X.apart (show j<i by omega) h2 (by
   cases hb:(R i).mask.testBit j with
   |false=>rfl
   |true=>rw [I.closed i l j hb] at J;cases J)
  exact a.look2 t hd hl
 rw [hT,X.tn_text (by omega) fun i hi l hd=>?_,hy]
 have a:=X.apart hi hj (by
  cases hb:(R j).mask.testBit i with
  |false=>rfl
  |true=>rw [r i hb] at l;cases l)
 exact a.look1 t hd hl
end
end Go.AE
namespace Go.AE
variable [Gl:AC]
variable [U:Unk]
section
variable {E:Env} {callF:Ask→Aa→Option (Bool×AV×Aa)} {all:Array Oper} {nt:Nat} {H:Nat→Aa} {Tm:Nat→T AV} {R:Nat→Rc} {Dd:Nat→Did} {n M:Nat}
 {ρ0 ρ σ:Ren} {w0 w w':World} {tm:Array Value} {D:Nat→Bool} (X:Cc E callF all nt H Tm R Dd n)
include X
theorem Cc.after (I:Inv nt H Tm R n M ρ0 w0 D ρ tm w) (hM:(H n).nx≤M) {j:Nat} (hj:j<n) (hD:D j=false) (b2:∀i,(R j).mask.testBit i=true→D i=true)
  (q3:HR σ (Dd j).g.blk.get w') (q4:Ext ρ σ (part (H j) (Dd j).fp) (Dd j).g w w'):HR σ (Cn H R (ins D j) n) w':=by
 obtain ⟨o,ho,g⟩:=X.good j hj;have bd:(part (H j) (Dd j).fp).nx=(H j).nx:=by cases (Dd j).fp<;>rfl
 have b8:(part (H j) (Dd j).fp).log=[]:=by cases (Dd j).fp<;>rfl
 obtain ⟨l,cc,du⟩:=q4.log;rw [b8,Aek] at cc;have b5:∀b x,ρ b≠none→(part (H j) (Dd j).fp).blk.get b=some x→Cn H R D n b=some x:=fun b x J hx=>X.agree I hM hj hD b2 J hx
 have b6:∀b,(b∈(R j).wr∨((R j).lo≤b∧b<(R j).hi))→∀i,j<i→i<n→D i=true→b∉(R i).wr∧¬((R i).lo≤b∧b<(R i).hi):=by
  intro b J i hi cd dv
  have a:=X.apart hi cd (by
   cases J:(R i).mask.testBit j with
   |false=>rfl
   |true=>rw [I.closed i dv j J] at hD;cases hD)
  have h1:=X.mono (i:=j+1) (j:=i) (by omega) (by omega)
  have h2:=X.hi hj;have h3:=X.lo cd;have h4:=X.lo hj;have h5:=X.le hj;rcases J with J|J
  ·have:=X.wr_lt hj J;exact ⟨a.wr b J,fun h=>by omega⟩
  ·exact ⟨fun h=>a.out b h J,fun h=>by omega⟩
 have ar:∀b x,Cn H R (ins D j) n b=some x→((b∈(R j).wr∨((R j).lo≤b∧b<(R j).hi))∧(Dd j).g.blk.get b=some x)∨((b∉(R j).wr∧¬((R j).lo≤b∧b<(R j).hi))∧Cn H R D n b=some x):=by
  intro b x hx;by_cases J:b∈(R j).wr∨((R j).lo≤b∧b<(R j).hi)
  ·refine .inl ⟨J,?_⟩;rw [WS hj J (b6 b J),g.heap] at hx;rcases J with J|J
   ·rw [g.wr] at J;rcases Hl J with q|⟨_,q⟩
    ·rw [q] at hx;cases hx
    ·rw [←q];exact hx
   ·rw [g.lo,g.hi] at J;rw [Ib (X.wfAt (by omega)) g.tx.nx J.1 J.2] at hx
    exact hx
  ·have cf:b∉(R j).wr:=fun q=>J (.inl q)
   have ch:¬((R j).lo≤b∧b<(R j).hi):=fun q=>J (.inr q)
   rw [ai hD cf ch] at hx;exact .inr ⟨⟨cf,ch⟩,hx⟩
 have an:∀b base x,(b∉(R j).wr∧¬((R j).lo≤b∧b<(R j).hi))→σ b=some base→Cn H R D n b=some x→ρ b=some base∧((part (H j) (Dd j).fp).blk.get b≠none→(Dd j).g.blk.get b=some x):=by
  intro b base x J hs hx
  have al:ρ b=some base:=by
   rcases q4.new b base hs with h|⟨h1,h2,_⟩
   ·exact h
   ·rw [bd] at h1;exact absurd ⟨g.lo▸h1,g.hi▸h2⟩ J.2
  refine ⟨al,fun hp=>?_⟩
  cases hy:(part (H j) (Dd j).fp).blk.get b with
  |none=>exact absurd hy hp
  |some y=>
   have:=b5 b y (by rw [al];exact F0 _) hy
   rw [hx] at this;cases this
   have ck:b<(H j).nx:=by
    rcases gg b (H j).nx with h|h
    ·exact h
    ·have:=Lp (X.wfAt (j:=j) (by omega)) (Dd j).fp b (by rw [bd];exact h)
     rw [this] at hy;cases hy
   rw [du b ?_ (.inl (by rw [bd];exact ck)),hy]
   intro hm;refine J.1 ?_;rw [g.wr,Cu,cc];exact ⟨hm,ck⟩
 refine ⟨q3.lt,fun b base x hs hx=>?_,fun b b' base r av hs be h1 h2=>?_,q3.imm,fun k arr b base hk hs hl=>?_,q3.glob⟩
 ·rcases ar b x hx with ⟨_,hg⟩|⟨J,hc⟩
  ·exact q3.blk b base x hs hg
  ·obtain ⟨al,bm⟩:=an b base x J hs hc;by_cases hp:(part (H j) (Dd j).fp).blk.get b=none
   ·have hk:=q4.kept base.cb (I.heap.lt b base al) (fun b0 t bn bs=>by
     have av:b0≠b:=by rintro rfl;exact bs hp
     cases hy:(part (H j) (Dd j).fp).blk.get b0 with
     |none=>exact absurd hy bs
     |some y=>
      have:=b5 b0 y (by rw [bn];exact F0 _) hy
      exact I.heap.apart b0 b t base av bn al (by rw [this];exact F0 _) (by rw [hc];exact F0 _))
    rw [hk];exact (I.heap.blk b base x al hc).mono q4.le
   ·exact q3.blk b base x hs (bm hp)
 ·have key:∀b b' base r,b≠b'→σ b=some base→σ b'=some r→Cn H R (ins D j) n b≠none→Cn H R (ins D j) n b'≠none→(Dd j).g.blk.get b=none→base.cb≠r.cb:=by
   intro b b' base r av hs be h1 h2 cm;cases hx:Cn H R (ins D j) n b with
   |none=>exact absurd hx h1
   |some x=>
    cases cv:Cn H R (ins D j) n b' with
    |none=>exact absurd cv h2
    |some x'=>
     rcases ar b x hx with ⟨_,hg⟩|⟨J,hc⟩
     ·rw [cm] at hg;cases hg
     ·obtain ⟨al,bm⟩:=an b base x J hs hc
      have hp:(part (H j) (Dd j).fp).blk.get b=none:=by
       cases hp:(part (H j) (Dd j).fp).blk.get b with
       |none=>rfl
       |some y=>have:=bm (by rw [hp];exact F0 _);rw [cm] at this;cases this
      have bv:Cn H R D n b≠none:=by rw [hc];exact F0 _
      have dd:∀b0 t,ρ b0=some t→(part (H j) (Dd j).fp).blk.get b0≠none→base.cb≠t.cb:=by
       intro b0 t bn bs;have b1:b≠b0:=by rintro rfl;exact bs hp
       cases hy:(part (H j) (Dd j).fp).blk.get b0 with
       |none=>exact absurd hy bs
       |some y=>
        have:=b5 b0 y (by rw [bn];exact F0 _) hy
        exact I.heap.apart b b0 base t b1 al bn bv (by rw [this];exact F0 _)
      rcases ar b' x' cv with ⟨df,b7⟩|⟨df,dp⟩
      ·rcases q4.new b' r be with h|⟨_,_,h|⟨b0,t,e1,e2,e3⟩⟩
       ·rcases q4.live b' (by rw [b7];exact F0 _) with hl|⟨hl,ea⟩
        ·exact dd b' r h hl
        ·
         rw [bd] at hl;have ec:=X.lo hj;have h0:=X.mono (i:=0) (j:=j) (by omega) (by omega)
         have h1:=X.mono (i:=j+1) (j:=n) (by omega) (by omega)
         have h2:=X.hi hj;rw [g.hi] at h2;obtain ⟨j',b9,eb⟩:=I.free b' (by omega) (by omega) (by rw [h];exact F0 _)
         have:=X.disj hj (I.sub j' b9) ⟨by omega,by rw [g.hi];exact ea⟩ eb
         subst this;rw [hD] at b9;cases b9
       ·have:=I.heap.lt b base al;omega
       ·rw [←e3];exact dd b0 t e1 e2
      ·obtain ⟨ds,_⟩:=an b' r x' df be dp;exact I.heap.apart b b' base r av al ds bv (by rw [dp];exact F0 _)
  by_cases hg:(Dd j).g.blk.get b=none
  ·exact key b b' base r av hs be h1 h2 hg
  ·by_cases b7:(Dd j).g.blk.get b'=none
   ·exact fun e=>key b' b r base (Ne.symm av) be hs h2 h1 b7 e.symm
   ·exact q3.apart b b' base r av hs be hg b7
 ·cases hx:Cn H R (ins D j) n b with
  |none=>exact absurd hx hl
  |some x=>
   rcases ar b x hx with ⟨_,hg⟩|⟨J,hc⟩
   ·exact q3.off k arr b base hk hs (by rw [hg];exact F0 _)
   ·obtain ⟨al,bm⟩:=an b base x J hs hc;have bv:Cn H R D n b≠none:=by rw [hc];exact F0 _
    by_cases hp:(part (H j) (Dd j).fp).blk.get b=none
    ·rcases q4.imm k arr hk with h|h|⟨b0,t,e1,e2,e3⟩
     ·exact I.heap.off k arr b base h al bv
     ·have:=I.heap.lt b base al;omega
     ·have b1:b≠b0:=by rintro rfl;exact e2 hp
      cases hy:(part (H j) (Dd j).fp).blk.get b0 with
      |none=>exact absurd hy e2
      |some y=>
       have:=b5 b0 y (by rw [e1];exact F0 _) hy
       rw [←e3];exact I.heap.apart b b0 base t b1 al e1 bv (by rw [this];exact F0 _)
    ·exact q3.off k arr b base hk hs (by rw [bm hp];exact F0 _)
theorem Cc.step (I:Inv nt H Tm R n M ρ0 w0 D ρ tm w) (hM:(H n).nx≤M) (av:AX ρ0 (H 0).nx M) {j:Nat} (hj:j<n) (hD:D j=false) (J:∀i,(R j).mask.testBit i=true→D i=true) {v':Value}
  (q2:VR σ (Dd j).v v') (q3:HR σ (Dd j).g.blk.get w') (q4:Ext ρ σ (part (H j) (Dd j).fp) (Dd j).g w w'):Inv nt H Tm R n M ρ0 w0 (ins D j) σ (Jc tm (R j).dst v') w':=by
 obtain ⟨o,ho,g⟩:=X.good j hj;have be:(part (H j) (Dd j).fp).nx=(H j).nx:=by cases (Dd j).fp<;>rfl
 have b6:=X.lo hj;have bn:=X.hi hj;have b7:=X.mono (i:=0) (j:=j) (by omega) (by omega)
 have b8:=X.mono (i:=j+1) (j:=n) (by omega) (by omega)
 have al:∀b0 l,ρ b0=some l→(part (H j) (Dd j).fp).blk.get b0≠none→w0.heap.size≤l.cb∨∃b1 r,ρ0 b1=some r∧(H 0).blk.get b1≠none∧r.cb=l.cb:=by
  intro b0 l an bd;cases hy:(part (H j) (Dd j).fp).blk.get b0 with
  |none=>exact absurd hy bd
  |some y=>
   have hc:=X.agree I hM hj hD J (by rw [an];exact F0 _) hy
   rcases I.new b0 l an with h|⟨_,_,h⟩
   ·right;refine ⟨b0,l,h,?_,rfl⟩
    have ar:b0<(H 0).nx:=by
     rcases gg b0 (H 0).nx with q|q
     ·exact q
     ·have ar:b0<(H j).nx:=by
       rcases gg b0 (H j).nx with h|h
       ·exact h
       ·have:=Lp (X.wfAt (j:=j) (by omega)) (Dd j).fp b0 (by rw [be];exact h)
        rw [this] at hy;cases hy
      have:=X.le hj;rw [av b0 q (by omega)] at h;cases h
    exact X.cn_live (D:=D) ar (IqQ n) (by rw [hc];exact F0 _)
   ·exact h
 refine ⟨?_,?_,?_,?_,X.after I hM hj hD J q3 q4,?_,I.le.trans q4.le,I.calm.trans q4.calm,?_,?_,?_⟩
 ·intro i hi;by_cases e:i=j
  ·omega
  ·exact I.sub i (by simpa [ins,e] using hi)
 ·intro i hi k hk;by_cases e:i=j
  ·subst e;have:=J k hk;by_cases e2:k=i
   ·simp [ins,e2]
   ·simpa [ins,e2] using this
  ·have:=I.closed i (by simpa [ins,e] using hi) k hk
   by_cases e2:k=j
   ·simp [ins,e2]
   ·simpa [ins,e2] using this
 ·unfold Jc;split<;>simp [I.size]
 ·intro t x hx;by_cases hd:(R j).dst=some t
  ·rw [Xc hj hd (fun i h1 h2 bs bv=>by
    have a:=X.apart h1 h2 (by
     cases hb:(R i).mask.testBit j with
     |false=>rfl
     |true=>rw [I.closed i bs j hb] at hD;cases hD)
    exact a.dst t hd bv)] at hx
   have hp:=g.put;rw [g.dst] at hd;rw [hd] at hp;simp only [Ey] at hp;cases hb:Nat.blt t nt with
   |false=>rw [hb] at hp;cases hp
   |true=>
    rw [hb] at hp;simp only [C2] at hp;rw [←hp,T.get_set,if_pos rfl] at hx;cases hx;have ar:t<tm.size:=by rw [I.size];simpa [Nat.blt_eq] using hb
    rw [g.dst,hd];simpa [Jc,L1,ar] using q2
  ·rw [XH hD hd] at hx;have:=(I.tmp t x hx).mono q4.le;unfold Jc;split
   ·rename_i d b2;have b5:d≠t:=by rintro rfl;exact hd b2
    simpa [L1,pv b5] using this
   ·exact this
 ·intro b h1 h2 hb;cases hs:σ b with
  |none=>exact absurd hs hb
  |some base=>
   rcases q4.new b base hs with h|⟨a1,a2,_⟩
   ·obtain ⟨i,hi,hr⟩:=I.free b h1 h2 (by rw [h];exact F0 _)
    refine ⟨i,?_,hr⟩;by_cases e:i=j
    ·simp [ins,e]
    ·simpa [ins,e] using hi
   ·exact ⟨j,by simp [ins],by omega,by rw [g.hi];exact a2⟩
 ·intro b base hs;rcases q4.new b base hs with h|⟨a1,a2,a3⟩
  ·exact I.new b base h
  ·right;rw [g.hi] at bn;refine ⟨by omega,by omega,?_⟩
   rcases a3 with a3|⟨b0,l,e1,e2,e3⟩
   ·left;have:=I.calm.size;omega
   ·rw [←e3];exact al b0 l e1 e2
 ·intro k hk bm
  rw [q4.kept k (by have:=I.calm.size;omega) (fun b0 l an bd=>by
   rcases al b0 l an bd with h|⟨b1,r,e1,e2,e3⟩
   ·omega
   ·rw [←e3];exact bm b1 r e1 e2)]
  exact I.kept k hk bm
 ·intro k arr hk;rcases q4.imm k arr hk with h|h|⟨b0,l,e1,e2,e3⟩
  ·exact I.imm k arr h
  ·right;left;have:=I.calm.size;omega
  ·right;rcases al b0 l e1 e2 with h|⟨b1,r,f1,f2,f3⟩
   ·left;omega
   ·right;exact ⟨b1,r,f1,f2,f3.trans e3⟩
end
end Go.AE

