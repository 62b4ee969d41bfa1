/- What is proved here: an evaluator of the model's steps that the kernel can run, and that whatever it answers is what the model does (part 4 of 7: AeMap2, AeCat, AeOps19, AeOps20, AeStep1, AeStep2, AeStep3, AeStep4, AeStep5, AeStep6, AeStep7, AeDraw1, AeDraw2, AeDraw3, AeDraw4, AeDraw5, AeDraw6). Conditions: those that each theorem states; they hold of no one program. -/
import Derived.Test.YtojjaeaohjlfnaaGreatBeC
set_option linter.unusedVariables false
set_option linter.unusedSectionVars false
set_option linter.unusedSimpArgs false
namespace Go.AE
variable [Gl:AJ]
variable [U:Unk]
theorem Hm {a:Type} {l:List a} {n j:Nat} {d:a}:(l.drop n).getD j d=l.getD (n+j) d:=by
 rw [Id,Id,l0]
theorem Kp {a:Type} {l:List a} {n q:Nat} {f:a→a} (h:q≠n):(l.modify n f)[q]?=l[q]?:=by
 rw [List.getElem?_modify];cases l[q]?<;>simp [Ne.symm h]
theorem Er {g:Ren} {ks:List Kd} {a:AV} {v:Value} (h:HJ ks a=true) (hv:VR g a v) (f:v.cells.toList.length=ks.length) :
  v=US v.cells.toList∧∀u,v.cells.toList=[u]→∀x,u≠.agg x:=by
 have key:∀(b:List Value),b.length≠1→US b=.agg b.toArray:=by
  intro b e;rcases b with _|⟨x,_|⟨y,b⟩⟩
  ·rfl
  ·exact absurd rfl e
  ·rfl
 rcases ks with _|⟨k,_|⟨k2,ks⟩⟩
 ·cases hv<;>simp only [HJ,Ts] at h
  rename_i l b i j;have c:b.length=0:=f;exact ⟨(key b (by omega)).symm,fun u d=>by have:b=[u]:=d;rw [this] at c;simp at c⟩
 ·cases hv<;>simp only [HJ,Ts] at h<;>exact ⟨rfl,fun u d x m=>by
   subst m;simp only [Value.cells] at d;cases d⟩
 ·cases hv<;>simp only [HJ,Ts] at h
  rename_i l b i j;have c:b.length=ks.length+2:=f;exact ⟨(key b (by omega)).symm,fun u d=>by have:b=[u]:=d;rw [this] at c;simp at c⟩
theorem DA {ks:List Kd} {a:AV} (h:HJ ks a=true):a≠.top:=by
 rintro rfl
 rcases ks with _|⟨k,_|⟨k2,ks⟩⟩<;>simp [HJ] at h
theorem Pv {ρ:Ren} {a:List Kd} {k:AV} {b:SE} {c:Value} (h:V7 a k=some b) (d:VR ρ k c):(Ab U.V b).cells.length=a.length∧KV U.K ρ.imm a c (Ab U.V b).cells:=by
 unfold V7 at h;split at h
 ·rename_i e;obtain ⟨g,f,i⟩:=GE _ _ _ _ h (d.cells (DA e));obtain ⟨w1,w2⟩:=Er e d f;exact ⟨g,_,w1,f,w2,i⟩
 ·cases h
theorem PZ {ρ:Ren} {a b:List Kd} {k v:AV} {r:SE} {d e:Value} (h:WS a b k v=some r) (i:VR ρ k d) (hv:VR ρ v e) :
  (Ab U.V r).cells.length=a.length+b.length∧KV U.K ρ.imm a d (Ab U.V r).cells∧KV U.K ρ.imm b e ((Ab U.V r).cells.drop a.length):=by
 unfold WS at h;split at h
 ·rename_i f;obtain ⟨f,c3⟩:=Au f;obtain ⟨c1,c2⟩:=Au f;have c3:=Ay c3;have k1:=i.cells (DA c1);have m:=hv.cells (DA c2);obtain ⟨n,o,l⟩:=GE _ _ _ _ h (k1.append m);have g:d.cells.toList.length=a.length:=by have:=k1.1;omega
  have vl:e.cells.toList.length=b.length:=by simp only [lv] at o;omega
  obtain ⟨w1,w2⟩:=Er c1 i g;obtain ⟨w3,w4⟩:=Er c2 hv vl;refine ⟨by rw [n];simp,⟨_,w1,g,w2,fun j kd hj=>?_⟩,⟨_,w3,vl,w4,fun j kd hj=>?_⟩⟩
  ·have c:=(LT.1 hj).1;have:=l j kd (by rw [Nj c];exact hj)
   rwa [Id,Nj (by omega),←Id] at this
  ·have c:=(LT.1 hj).1;have:=l (a.length+j) kd (by rw [No (by omega),zD];exact hj)
   rw [Id,No (by omega),g,zD,←Id] at this
   rw [Hm];exact this
 ·cases h
theorem JQ {a r:SE}:(Ab U.V (.snoc a r)).rows=(Ab U.V a).rows++[Ab U.V r]:=rfl
theorem Nd {ρ:Ren} {a b:List Kd}:∀{d:List AG} {c:List MapEntry} {y z:SE} {es0:List MapEntry},Nv a b y d=some z→ER ρ d c→Bp U.K ρ.imm a b es0 (Ab U.V y).rows→Bp U.K ρ.imm a b (es0++c) (Ab U.V z).rows
 |[],[],y,z,es0,h,_,f=>by
  simp only [Nv,C2] at h;subst h;simpa using f
 |e::d,g::c,y,z,es0,h,⟨i,j,p,k⟩,f=>by
  simp only [Nv] at h;split at h
  ·rename_i x l;obtain ⟨m,n,o⟩:=PZ l i j;have:=Nd (es0:=es0++[g]) h k (by rw [JQ];exact Bp.push m n o f)
   simpa using this
  ·cases h
 |[],_::_,_,_,_,_,h,_=>h.elim
 |_::_,[],_,_,_,_,h,_=>h.elim
theorem U7 {ρ:Ren} {j k:TypeId} {d e:List Kd} {b:Option Ak} {x:SE} {base:Cr} {o:Option Obj} (h:ak j k d e b=some x) (l:∀y,b=some y→BR ρ y base o) (m:U.K j=some d) (hv:U.K k=some e) :
  ∃c:List MapEntry,∃a,o=some (.map c.toArray a)∧Bp U.K ρ.imm d e c (Ab U.V x).rows∧Inc c a:=by
 unfold ak at h;split at h
 ·rename_i n p v;split at h
  ·rename_i q;cases h;obtain ⟨c1,c2⟩:=Au q;have c1:=Ay c1;have c2:=Ay c2;subst c1;subst c2;obtain ⟨k1,w,c,a,i,f,r,s,t⟩:=l _ rfl;rw [m] at i;rw [hv] at f;cases i;cases f;exact ⟨c,a,r,s,t⟩
  ·cases h
 ·rename_i u a;split at h
  ·rename_i g;obtain ⟨c,i,f⟩:=l _ rfl;have:=Nd (es0:=[]) h f trivial;exact ⟨c,a,i,by simpa using this,(PU u c 0 a g f).2⟩
  ·cases h
 ·cases h
theorem MQ {a i:SE} {j:Nat} {x:SE}:(Ab U.V (.upd a i j x)).rows=(Ab U.V a).rows.modify (Ac U.V i).toNat fun r=>.row (r.cells.set j (Ab U.V x)):=rfl
theorem GB {o:Ren} {ks:List Kd} {i:SE}:∀(l:List AV) (m:List Value) (j:Nat) (y d:SE) (r:D),Dg i ks y j l=some d→VL o l m→(Ab U.V y).rows[(Ac U.V i).toNat]?=some r→j+l.length≤r.cells.length→
  (Ab U.V d).rows.length=(Ab U.V y).rows.length∧(∀q,q≠(Ac U.V i).toNat→(Ab U.V d).rows[q]?=(Ab U.V y).rows[q]?)∧
  ∃e,(Ab U.V d).rows[(Ac U.V i).toNat]?=some e∧e.cells.length=r.cells.length∧(∀p,p<j∨j+l.length≤p→e.cells.getD p default=r.cells.getD p default)∧
   ∀(q:Nat) kd,q<l.length→ks[j+q]?=some kd→DV U.K o.imm kd (m.getD q Go.undef) (e.cells.getD (j+q) default)
 |[],m,j,y,d,r,h,hv,n,hj=>by
  simp only [Dg,C2] at h;subst h;exact ⟨rfl,fun _ _=>rfl,r,n,rfl,fun _ _=>rfl,fun q kd f=>absurd f (gk q)⟩
 |a::l,m,j,y,d,r,h,hv,n,hj=>by
  obtain ⟨v,vr,rfl,s,t⟩:=hv.cons_inv;simp only [Dg] at h;split at h
  ·rename_i k u;split at h
   ·rename_i x w;have z:=Lp s w
    have g:(Ab U.V (.upd y i j x)).rows[(Ac U.V i).toNat]?=some (.row (r.cells.set j (Ab U.V x))):=by
     rw [MQ,List.getElem?_modify_eq,n];rfl
    simp only [la] at hj;obtain ⟨a1,a2,e,a3,a4,a5,a6⟩:=GB l vr (j+1) _ d _ h t g (by show j+1+l.length≤(r.cells.set j (Ab U.V x)).length;simp;omega)
    have b:(D.row (r.cells.set j (Ab U.V x))).cells=r.cells.set j (Ab U.V x):=rfl;rw [b] at a4 a5;refine ⟨by rw [a1,MQ];simp,fun q f=>by rw [a2 q f,MQ,Kp f],e,a3,by rw [a4];simp,fun p A=>?_,fun q kd f c=>?_⟩
    ·simp only [la] at A;rw [a5 p (by omega),Id,Id,List.getElem?_set_ne (by omega)]
    ·cases q with
     |zero=>
      rw [n0] at c ⊢;rw [u] at c;cases c;rw [a5 j (by omega),Of,Id,List.getElem?_set_self (by omega)]
      exact z
     |succ q=>
      rw [C9,show j+(q+1)=j+1+q by omega]
      exact a6 q kd (by simpa using f) (by rw [←c];congr 1;omega)
   ·cases h
  ·cases h
theorem Iz {E:Env} (hE:OK E) {t e f:TypeId} {c d:List Kd} (h:MP E t=some (e,f,c,d)):E.desc t=some (.map e f)∧U.K e=some c∧U.K f=some d∧Ho E e c=true:=by
 unfold MP at h;split at h
 ·rename_i g i j;split at h
  ·rename_i a b k l;split at h
   ·rename_i m;cases h;exact ⟨j,by rw [hE.kd,←hE.ke];exact k,by rw [hE.kd,←hE.ke];exact l,m⟩
   ·cases h
  ·cases h
 ·cases h
theorem Ib {E:Env} {b:TypeId} {k:AV} (a:Co E 20 b k=true):∃c,E.desc b=some c:=by
 simp only [Co] at a;cases d:E.desc b with
 |none=>simp [d] at a
 |some c=>exact ⟨c,rfl⟩
section
variable {E:Env} (hE:OK E) {ρ:Ren} {h:Aa} {w:World}
include hE
theorem Un (hr:HR ρ h.blk.get w) {t:TypeId} {m k a:AV} {mv M:Value} {ok:Bool} (hm:VR ρ m mv) (hk:VR ρ k M) (g:Px E t m k ok h=some a) :
  ∃v,(Instr.lookup t mv M ok).run E.P w=.ok v w∧VR ρ a v:=by
 unfold Px at g;split at g
 ·rename_i kt vt d H r ht;obtain ⟨hd,O,Q,C⟩:=Iz hE ht;split at g
  ·rename_i af ag x hg;split at g
   ·rename_i z D R hz S;obtain ⟨R,c3⟩:=Au R;obtain ⟨c1,c2⟩:=Au R;have c1:=Ay c1;have c2:=Ay c2;subst c1;subst c2;obtain ⟨zv,z1,z2⟩:=hE.run_zero ρ hz w;have T:=AY ρ z2;have I:∀W,(Instr.checkKey W 10000 kt M).run E.P w=.ok () w:=fun W=>EJ (w:=w) hE W 9980 20 kt k M c3 hk
    obtain ⟨ds,X⟩:=Ib c3;obtain ⟨kl,Y⟩:=Pv S hk
    have fin:∀(v:AV) (b:Bool) (J:Value),VR ρ v J→VR ρ (NG ok v b) (if ok then .tuple #[J,.bool b] else J):=by
     intro v b J hv;cases ok with
     |true=>
      have:=VL.cons hv (VL.cons (VR.bool (ρ:=ρ) b) (VL.nil ρ));exact .tuple _ [J,.bool b] this.1 this.2
     |false=>exact hv
    cases hm with
    |map _ base hb=>
     obtain ⟨k1,v1,Z,F,e1,e2,e3,e4,_⟩:=hr.blk r base _ hb hg;rw [O] at e1;rw [Q] at e2;cases e1;cases e2;have u:(getObj base.cb).run E.P w=.ok (.map Z.toArray F) w:=by simp [getObj,Sem.run,e3]
     have f:=GG (w:=w) hE C Y (by omega) X e4
     have y:=Hh (k:=(Ab U.V D).cells) 0 e4;have i:Ac U.V (.mIdx d x D)=Fm d (Ab U.V D).cells (Ab U.V x).rows 0:=rfl;split at g
     ·rename_i o;cases g;have s:=Aw U.ok o;rw [Az,kp] at s;have z0:Ac U.V (.c 0)=0:=rfl;rw [z0,i] at s;rcases y with ⟨a1,a2⟩|⟨n,e,r',a1,a2,a3⟩
      ·rw [a1] at f;refine ⟨_,?_,fin z false zv T⟩;simp [Instr.lookup,hE.run_und hd,u,I,f,z1]
      ·omega
     ·rename_i o;split at g
      ·rename_i l aa;cases g;have s:=Aw U.ok o;rw [Az,s0] at s;have z0:Ac U.V (.c 0)=0:=rfl;rw [z0,i] at s;rcases y with ⟨a1,a2⟩|⟨n,e,r',a1,a2,a3,a4,a5⟩
       ·omega
       ·rw [a1] at f;obtain ⟨q1,⟨lk,k1,k2,k3,k4⟩,⟨N,v1,v2,v3,v4⟩⟩:=e4.get a3 a4;have hn:(Ac U.V (.mIdx d x D)).toNat=n:=by rw [i,a2];simp
        have L:(Ab U.V x).rows.getD n default=r':=by rw [Id,a4];rfl
        have G:∀j,Ab U.V (.cell x (.mIdx d x D) j)=r'.cells.getD j default:=by
         intro j;show ((Ab U.V x).rows.getD (Ac U.V (.mIdx d x D)).toNat default).cells.getD j default=_;rw [hn,L]
        have A:∀p,((lk++N).toArray).getD p Go.undef=(lk++N).getD p Go.undef:=by intro p;simp [Mf,Id]
        have hv:∀j kd,(d++H)[j]?=some kd→DV U.K ρ.imm kd ((lk++N).toArray.getD (0+j) Go.undef) (Ab U.V (.cell x (.mIdx d x D) j)):=by
         intro j kd hj;rw [G,A,pi,Id];by_cases ab:j<d.length
         ·rw [Nj ab] at hj;rw [Nj (by omega),←Id]
          exact k4 j kd hj
         ·rw [No (by omega)] at hj
          rw [No (by omega),←Id,k2]
          have:=v4 (j-d.length) kd hj;rw [Hm,show d.length+(j-d.length)=j by omega] at this
          exact this
        obtain ⟨p1,p2,p3⟩:=Ih hv H.length d.length l aa
        have ac:VL ρ l N:=by
         refine ⟨by omega,fun q a v ad ae=>?_⟩
         have:=p3 q a ad;rw [A,pi,Id,No (by omega),k2,zD,ae] at this
         exact this
        have B:=Qw ac;rw [←v1] at B;refine ⟨_,?_,fin _ true e.val B⟩;simp [Instr.lookup,hE.run_und hd,u,I,f]
      ·cases g
     ·cases g
   ·cases g
  ·cases g
 ·cases g
theorem Tc (Y:HR ρ h.blk.get w) {t:TypeId} {m k v:AV} {mv C p:Value} {h':Aa} (hm:VR ρ m mv) (L:VR ρ k C) (hv:VR ρ v p) (s:P0 E t m k v h=some h') :
  ∃Z,(Instr.mapUpdate t mv C p).run E.P w=.ok () Z∧HR ρ h'.blk.get Z∧Ext ρ ρ h h' w Z:=by
 unfold P0 at s;split at s
 ·rename_i T vt g l r ht;obtain ⟨hd,G,H,u⟩:=Iz hE ht;split at s
  ·rename_i x W c3 I aa;have M:∀em,(Instr.checkKey em 10000 T C).run E.P w=.ok () w:=fun em=>EJ (w:=w) hE em 9980 20 T k C c3 L
   obtain ⟨ds,ab⟩:=Ib c3;obtain ⟨kl,N⟩:=Pv aa L;cases hm with
   |map _ base hb=>
    have z:h.blk.get r≠none:=by
     intro e;rw [e] at I;cases I
    obtain ⟨o,a,e3,O,e5⟩:=U7 I (fun y hy=>Y.blk r base y hb hy) G H
    have D:=A7 (w:=w) E.P e3 (by simp)
    have b:=GG (w:=w) hE u N (by omega) ab O
    have F:=Hh (k:=(Ab U.V W).cells) 0 O;have A:Ac U.V (.mIdx g x W)=Fm g (Ab U.V W).cells (Ab U.V x).rows 0:=rfl;split at s
    ·rename_i row d B;cases s;have i:=Aw U.ok B;rw [Az,kp] at i;have z0:Ac U.V (.c 0)=0:=rfl;rw [z0,A] at i;rcases F with ⟨a1,a2⟩|⟨n,e,r',a1,a2,a3⟩
     ·rw [a1] at b;obtain ⟨q1,X,q3⟩:=PZ d L hv;obtain ⟨p1,p2⟩:=Y.setObj hb z (.dmap T vt (.snoc x row)) (.map (o.toArray.push {key:=C,val:=p,born:=a}) (a+1))
       ⟨g,l,o++[{key:=C,val:=p,born:=a}],a+1,G,H,by simp,by rw [JQ];exact Bp.push q1 X q3 O,e5.push C p⟩
      refine ⟨_,?_,p1,p2⟩;simp [Instr.mapUpdate,hE.run_und hd,D,M,b,Bf (w:=w) E.P e3 (by simp)]
     ·omega
    ·rename_i row d B;split at s
     ·rename_i y hy;cases s;have i:=Aw U.ok B;rw [Az,s0] at i;have z0:Ac U.V (.c 0)=0:=rfl;rw [z0,A] at i;rcases F with ⟨a1,a2⟩|⟨n,e,r',a1,a2,a3,a4,a5⟩
      ·omega
      ·rw [a1] at b;have hn:(Ac U.V (.mIdx g x W)).toNat=n:=by rw [A,a2];simp
       obtain ⟨q1,X,q3⟩:=O.get a3 a4;obtain ⟨_,_,Q⟩:=YE (w:=w) hE u X N (by omega) (by omega)
       have ac:e.key=C:=Q a5;unfold WS at d;split at d
       ·rename_i hc;obtain ⟨hc,c6⟩:=Au hc;obtain ⟨c4,c5⟩:=Au hc;have J:=hv.cells (DA c5);have ad:=GE _ _ _ _ d ((L.cells (DA c4)).append J);have c6:=Ay c6;have aj:=(L.cells (DA c4)).1;have vl:p.cells.toList.length=l.length:=by have:=ad.2.1;simp only [lv] at this;omega
        have ak:v.cells.length=l.length:=by have:=J.1;omega
        obtain ⟨u1,u2,r2,u3,u4,u5,u6⟩:=GB _ _ _ _ _ r' hy J (by rw [hn];exact a4) (by omega)
        rw [hn] at u2 u3;obtain ⟨w3,w4⟩:=Er c5 hv vl;obtain ⟨nk,w1,s1,s2,s3,s4,s5,s6⟩:=D5 (w:=w) E.P e.key C;have ae:nk=e.key:=by rcases s2 with rfl|rfl;exact ac.symm;rfl
        subst ae;have af:HR ρ h.blk.get w1:=Y.same s3
        have ag:KV U.K ρ.imm g e.key r2.cells:=by
         obtain ⟨lk,k1,k2,k3,k4⟩:=X;refine ⟨lk,k1,k2,k3,fun j kd hj=>?_⟩
         have i:=(LT.1 hj).1;rw [u5 j (.inl i)];exact k4 j kd hj
        have ah:KV U.K ρ.imm l p (r2.cells.drop g.length):=by
         refine ⟨_,w3,vl,w4,fun j kd hj=>?_⟩
         have i:=(LT.1 hj).1;rw [Hm];exact u6 j kd (by omega) (by rw [No (by omega),zD];exact hj)
        have al:n<o.length:=(LT.1 a3).1
        have R:Bp U.K ρ.imm g l (o.modify n fun S=>{S with key:=e.key,val:=p}) (Ab U.V y).rows:=by
         refine Bp.change (x:={key:=e.key,val:=p,born:=e.born}) (y:=r2) (by rw [u4];exact q1) ag ah n O (by simp) u1 (fun q hq=>Kp hq) (fun q hq=>u2 q hq) (fun _=>by rw [List.getElem?_modify_eq,a3];rfl) (fun _=>u3)
        obtain ⟨p1,p2⟩:=af.setObj hb z (.dmap T vt y) (.map (o.toArray.modify n fun S=>{S with key:=e.key,val:=p}) a)
         ⟨g,l,_,a,G,H,by simp [List.modify_toArray],R,e5.modify (f:=fun S=>{S with key:=e.key,val:=p}) (fun _=>rfl) n⟩
        refine ⟨_,?_,p1,p2.drawn s3 s4 s5 s6⟩;have ai:w1.heap[base.cb]?=some (.map o.toArray a):=by rw [s3];exact e3
        simp only [pi] at b;simp only [Instr.mapUpdate,LE,hE.run_und hd,E1,D,M,b,sf,a3,pv,zH,s1];rw [Bf (w:=w1) E.P ai (by simp)]
       ·cases d
     ·cases s
    ·cases s
  ·cases s
 ·cases s
theorem SQ (b:HR ρ h.blk.get w) {t:TypeId} {m k v:AV} {f g i:Value} {h':Aa} (c:VR ρ m f) (d:VR ρ k g) (hv:VR ρ v i) (a:PA E t m k v h=some h') :
  ∃e,(Instr.mapUpdate t f g i).run E.P w=.ok () e∧HR ρ h'.blk.get e∧Ext ρ ρ h h' w e:=by
 unfold PA at a;split at a
 ·split at a
  ·rename_i q;cases a;exact Tc hE b c d hv q
  ·exact Ir hE b c d hv a
 ·exact Ir hE b c d hv a
theorem VV (hr:HR ρ h.blk.get w) {t:TypeId} {m k a:AV} {mv j:Value} {h':Aa} (hm:VR ρ m mv) (hk:VR ρ k j) (l:UH E t m k h=some (a,h')) (hf:AW ρ h.nx h'.nx) :
  A5 E ρ h h' w (Instr.mapEntry t mv j) a:=by
 unfold UH at l;split at l
 ·rename_i o v g A r ht;obtain ⟨hd,B,C,D⟩:=Iz hE ht;split at l
  ·rename_i x kr z c3 F aa hz;have ab:∀em,(Instr.checkKey em 10000 o j).run E.P w=.ok () w:=fun em=>EJ (w:=w) hE em 9980 20 o k j c3 hk
   obtain ⟨ds,ac⟩:=Ib c3;obtain ⟨kl,ad⟩:=Pv aa hk;obtain ⟨G,z1,z2⟩:=hE.run_zero ρ hz w;have J:=AY ρ z2;cases hm with
   |map _ base H=>
    have I:h.blk.get r≠none:=by
     intro e;rw [e] at F;cases F
    obtain ⟨p,d,e3,Z,e5⟩:=U7 F (fun y hy=>hr.blk r base y H hy) B C
    have L:=A7 (w:=w) E.P e3 (by simp)
    have i:=GG (w:=w) hE D ad (by omega) ac Z
    have M:=Hh (k:=(Ab U.V kr).cells) 0 Z;have N:Ac U.V (.mIdx g x kr)=Fm g (Ab U.V kr).cells (Ab U.V x).rows 0:=rfl;split at l
    ·rename_i row O Q;simp only [C2,hS] at l;obtain ⟨rfl,rfl⟩:=l;have q:=Aw U.ok Q;rw [Az,kp] at q;have z0:Ac U.V (.c 0)=0:=rfl;rw [z0,N] at q;rcases M with ⟨a1,a2⟩|⟨n,e,r',a1,a2,a3⟩
     ·rw [a1] at i;obtain ⟨q1,q2,q3⟩:=PZ O hk J;have s:Bp U.K ρ.imm g A (p++[{key:=j,val:=G,born:=d}]) (Ab U.V (.snoc x row)).rows:=by rw [JQ];exact Bp.push q1 q2 q3 Z
      have u:=e5.push j G;obtain ⟨p1,p2⟩:=hr.setObj H I (.dmap o v (.snoc x row)) (.map (p.toArray.push {key:=j,val:=G,born:=d}) (d+1))
       ⟨g,A,p++[{key:=j,val:=G,born:=d}],d+1,B,C,by simp,s,u⟩
      have f:ρ h.nx=none:=hf h.nx (L1 _) (by simp [Aa.put,Aa.stampN])
      have R:r≠h.nx:=by rintro rfl;rw [f] at H;cases H
      have S:(h.put r (.dmap o v (.snoc x row))).blk.get r≠none:=by simp [Aa.put,T.get_set]
      obtain ⟨s1,s2⟩:=p1.stamp (h:=h.put r (.dmap o v (.snoc x row))) f H S d;have ae:(ρ.upd h.nx ⟨base.cb,d,base.csz⟩) r=some base:=by simp [Ren.upd,R,H]
      have af:(h.put r (.dmap o v (.snoc x row))).stampN.blk.get r≠none:=by
       show ((h.put r (.dmap o v (.snoc x row))).blk.del h.nx).get r≠none;rw [T.get_del,if_neg (fun e=>R e.symm)]
       exact S
      have W:=Ren.le_upd f ⟨base.cb,d,base.csz⟩;have X:=Z.length
      obtain ⟨t1,t2⟩:=HR.put (h:=(h.put r (.dmap o v (.snoc x row))).stampN) s1 ae af (.dmapS o v (.snoc x row) (.lenL x) h.nx) _ (by
       have q:=hr.lt r base H;show BR _ _ _ (w.heap.setIfInBounds base.cb _)[base.cb]?;rw [Array.getElem?_setIfInBounds_self_of_lt q];refine ⟨g,A,p++[(⟨j,G,d⟩:MapEntry)],d+1,B,C,by simp,s.mono W.imm,u,⟨base.cb,d,base.csz⟩,Ren.upd_same _ _ _,?_⟩
       rw [Aq,zI,←X];simp) rfl (fun _ _=>rfl) rfl rfl rfl
      have Y:VR (ρ.upd h.nx ⟨base.cb,d,base.csz⟩) (.tuple [z,.stamp h.nx]) (.tuple #[G,goInt d]):=by
       have:=VL.cons (J.mono W) (VL.cons (VR.stamp (ρ:=ρ.upd h.nx ⟨base.cb,d,base.csz⟩) h.nx ⟨base.cb,d,base.csz⟩ (Ren.upd_same _ _ _)) (VL.nil _));exact .tuple _ [G,goInt d] this.1 this.2
      refine ⟨_,_,_,?_,Y,t1,(p2.trans s2 (fun b b1 b2=>hf b b1 (by simp only [Aa.put,Aa.stampN] at b2 ⊢;omega))).trans t2 (fun b b1 b2=>hf b b1 (by simp only [Aa.put,Aa.stampN] at b2 ⊢;omega))⟩
      simp [Instr.mapEntry,hE.run_und hd,L,ab,i,z1,Bf (w:=w) E.P e3 (by simp)]
     ·omega
    ·cases l
  ·cases l
 ·cases l
theorem Wf (c:HR ρ h.blk.get w) {t:TypeId} {m k a:AV} {f g:Value} {h':Aa} (d:VR ρ m f) (e:VR ρ k g) (b:SN E t m k h=some (a,h')) (i:AW ρ h.nx h'.nx) :
  A5 E ρ h h' w (Instr.mapEntry t f g) a:=by
 unfold SN at b;split at b
 ·split at b
  ·rename_i r j;cases b;exact VV hE c d e j i
  ·exact Oy hE c d e b
 ·exact Oy hE c d e b
omit hE in
theorem Sq {es:List MapEntry} {n s:Nat} (hp:(es.map (·.born)).Pairwise (· < ·)) (hn:(es[n]?).map (·.born)=some s):es.toArray.findIdx? (fun e=>(e.born:Int)==(s:Int))=some n:=by
 obtain ⟨e,he,hs⟩:=Option.map_eq_some_iff.1 hn;have hlt:=(LT.1 he).1;have hge:=(LT.1 he).2;rw [List.findIdx?_toArray,List.findIdx?_eq_some_iff_getElem];refine ⟨hlt,by rw [hge,hs];simp,fun j hj=>?_⟩
 have hj':j<es.length:=by omega
 have:=List.pairwise_iff_getElem.1 hp j n (by simpa using hj') (by simpa using hlt) hj
 simp only [List.getElem_map,hge,hs] at this;simp only [beq_iff_eq,Bool.not_eq_true,beq_eq_false_iff_ne,ne_eq];omega
theorem MN (T:HR ρ h.blk.get w) {t:TypeId} {m v:AV} {b:Nat} {W X g:Value} {h':Aa} (hm:VR ρ m W) (hs:VR ρ (.stamp b) X) (hv:VR ρ v g) (i:GO E t m b v h=some h') :
  ∃F,(Instr.entryStore t W X g).run E.P w=.ok () F∧HR ρ h'.blk.get F∧Ext ρ ρ h h' w F:=by
 unfold GO at i;split at i
 ·rename_i kt vt c d r ht;obtain ⟨hd,l,o,G⟩:=Iz hE ht;split at i
  ·rename_i ab ac x ne b' Y;split at i
   ·rename_i y k hy;cases i;obtain ⟨k,c5⟩:=Au k;obtain ⟨k,c4⟩:=Au k;obtain ⟨k,c3⟩:=Au k;obtain ⟨c1,c2⟩:=Au k;have c1:=Ay c1;have c2:=Ay c2;have c3:=Ay c3;have c5:=Ay c5;subst c1;subst c2;subst c3;cases hm with
    |map _ base Z=>
     obtain ⟨k1,v1,p,a,e1,e2,e3,H,e5,bs,e6,I⟩:=T.blk r base _ Z Y;rw [l] at e1;rw [o] at e2;cases e1;cases e2;cases hs with
     |stamp _ ad u=>
      rw [e6] at u;cases u;have z:=A7 (w:=w) E.P e3 (by simp)
      generalize hn:(Ac U.V ne).toNat=n at I;obtain ⟨e,he,J⟩:=Option.map_eq_some_iff.1 I;have L:=Sq e5.1 I;have ae:=(LT.1 he).1;have aa:=H.length;have M:∃N,(Ab U.V x).rows[n]?=some N:=⟨_,ud (by omega)⟩
      obtain ⟨N,A⟩:=M;obtain ⟨q1,q2,q3⟩:=H.get he A;have B:=hv.cells (DA c4);have vl:g.cells.toList.length=d.length:=by rw [←B.1];exact c5
      obtain ⟨u1,u2,O,u3,u4,u5,u6⟩:=GB _ _ _ _ _ N hy B (by rw [hn];exact A) (by omega)
      rw [hn] at u2 u3;obtain ⟨w3,w4⟩:=Er c4 hv vl
      have Q:KV U.K ρ.imm c e.key O.cells:=by
       obtain ⟨lk,k1,k2,k3,k4⟩:=q2;refine ⟨lk,k1,k2,k3,fun j kd hj=>?_⟩
       have hlt:=(LT.1 hj).1;rw [u5 j (.inl hlt)];exact k4 j kd hj
      have R:KV U.K ρ.imm d g (O.cells.drop c.length):=by
       refine ⟨_,w3,vl,w4,fun j kd hj=>?_⟩
       have hlt:=(LT.1 hj).1;rw [Hm];exact u6 j kd (by omega) (by rw [No (by omega),zD];exact hj)
      have C:Bp U.K ρ.imm c d (p.modify n fun D=>{D with val:=g}) (Ab U.V y).rows:=by
       refine Bp.change (x:={key:=e.key,val:=g,born:=e.born}) (y:=O) (by rw [u4];exact q1) Q R n H (by simp) u1 (fun q S=>Kp S) (fun q S=>u2 q S) (fun _=>by rw [List.getElem?_modify_eq,he];rfl) (fun _=>u3)
      obtain ⟨p1,p2⟩:=T.setObj Z (by rw [Y];simp) (.dmap kt vt y) (.map (p.toArray.modify n fun D=>{D with val:=g}) a)
       ⟨c,d,_,a,l,o,by simp [List.modify_toArray],C,e5.modify (f:=fun D=>{D with val:=g}) (fun _=>rfl) n⟩
      refine ⟨_,?_,p1,p2⟩;simp only [Instr.entryStore,LE,z,E1,asInt,asIntOf,L2,L];rw [Bf (w:=w) E.P e3 (by simp)]
   ·cases i
  ·cases i
 ·cases i
theorem ME (c:HR ρ h.blk.get w) {t:TypeId} {m s v:AV} {d f g:Value} {h':Aa} (i:VR ρ m d) (hs:VR ρ s f) (hv:VR ρ v g) (a:GF E t m s v h=some h') :
  ∃b,(Instr.entryStore t d f g).run E.P w=.ok () b∧HR ρ h'.blk.get b∧Ext ρ ρ h h' w b:=by
 unfold GF at a;split at a
 ·exact MN hE c i hs hv a
 ·exact M0 c i hs hv a
theorem Tk (i:HR ρ h.blk.get w) {t ty:TypeId} {m k:AV} {c d:Value} {h':Aa} (l:VR ρ m c) (o:VR ρ k d) (f:QC E t m k h=some h') (a:Array TypeId) (g:a[0]?=some t) :
  ∃b,(Builtin.delete_ a ty #[c,d]).run E.P w=.ok (.tuple #[]) b∧HR ρ h'.blk.get b∧Ext ρ ρ h h' w b:=by unfold QC at f;cases f
theorem SW (f:HR ρ h.blk.get w) {t ty:TypeId} {m k:AV} {g i:Value} {h':Aa} (l:VR ρ m g) (o:VR ρ k i) (c:Qy E t m k h=some h') (a:Array TypeId) (b:a[0]?=some t) :
  ∃d,(Builtin.delete_ a ty #[g,i]).run E.P w=.ok (.tuple #[]) d∧HR ρ h'.blk.get d∧Ext ρ ρ h h' w d:=by
 unfold Qy at c;split at c
 ·rename_i q;cases c;exact TU hE f l o q a b
 ·exact Tk hE f l o c a b
theorem TN {h:Aa} (C:HR ρ h.blk.get w) {t:TypeId} {m k a:AV} {M x:Value} {ok:Bool} (D:VR ρ m M) (q:VR ρ k x) (c:Lu E t m k ok h=some a) :
  ∃v,(Instr.lookup t M x ok).run E.P w=.ok v w∧VR ρ a v:=by
 unfold Lu at c;split at c
 ·rename_i r F;cases c;exact Uo hE C D q F
 ·split at c
  ·rename_i r F;cases c;exact Un hE C D q F
  split at c
  ·rename_i y Y r N _ _;split at c
   ·rename_i z es g l Q R;obtain ⟨S,z1,z2⟩:=hE.run_zero ρ Q w;have G:=AY ρ z2;have u:∀H,(Instr.checkKey H 10000 y x).run E.P w=.ok () w:=fun H=>EJ (w:=w) hE H 9980 20 y k x l q
    have d:∃A,E.desc y=some A:=by
     simp only [Co] at l;cases T:E.desc y with
     |none=>simp [T] at l
     |some A=>exact ⟨A,rfl⟩
    obtain ⟨A,d⟩:=d
    have fin:∀(v:AV) (b:Bool) (o:Value),VR ρ v o→VR ρ (NG ok v b) (if ok then .tuple #[o,.bool b] else o):=by
     intro v b o hv;cases ok with
     |true=>
      have:=VL.cons hv (VL.cons (VR.bool (ρ:=ρ) b) (VL.nil ρ));exact .tuple _ [o,.bool b] this.1 this.2
     |false=>exact hv
    cases D with
    |map _ base V=>
     obtain ⟨I,W,O⟩:=C.blk r base _ V R;have f:(getObj base.cb).run E.P w=.ok (.map I.toArray g) w:=by simp [getObj,Sem.run,W]
     split at c
     ·rename_i i v J;cases c;obtain ⟨K,B,L⟩:=KH (w:=w) hE d q O J;cases K with
      |none=>cases B
      |some X=>
       obtain ⟨j,o⟩:=X;refine ⟨_,?_,fin v true o B.2⟩;simp [Instr.lookup,hE.run_und N,f,u,L]
     ·rename_i J;cases c;obtain ⟨K,B,L⟩:=KH (w:=w) hE d q O J;cases K with
      |some p=>cases B
      |none=>
       refine ⟨_,?_,fin z false S G⟩;simp [Instr.lookup,hE.run_und N,f,u,L,z1]
     ·cases c
   ·cases c
  ·cases c
end
end Go.AE
namespace Go.AE
variable [Gl:AJ]
variable [U:Unk]
omit U in
theorem Hc:∀(l b:Nat),(Df l b).length=l
 |0,_=>rfl
 |l+1,b=>by simp [Df,Hc l]
theorem O1 {e:SE} (h:QA e=true):(AR U.V e).data.toList.length<4611686018427387904:=by
 unfold QA at h;split at h
 ·rename_i l b;have:=De h
  have e:(AR U.V (.strc l b)).data.toList.length=l:=by
   show ((Df l b).toArray).toList.length=l;simp [Hc]
  omega
 ·have:=Lx h;rw [Az,kp,CS] at this;have z:Ac U.V (.c 4611686018427387904)=4611686018427387904:=rfl;rw [z] at this;omega
section
variable {E:Env} (hE:OK E) {ρ:Ren} {h:Aa} {w:World}
omit U in
theorem kf [U:Unk] {t:TypeId} {s s':ByteArray} (h1:s.data.toList.length<4611686018427387904) (h2:s'.data.toList.length<4611686018427387904):(binOp .add t (.string s) (.string s')).run E.P w=.ok (.string (s++s')) w:=by
 have hsz:s.size=s.data.toList.length:=by simp
 have hsz':s'.size=s'.data.toList.length:=by simp
 have hmax:¬(((s.size+s'.size:Nat):Int)>IntKind.i64.max):=by
  simp only [IntKind.max,IntKind.signed,IntKind.bits];omega
 simp only [binOp,Op.stringOp];rw [if_neg hmax];rfl
theorem bu {d:BinOp} {t:TypeId} {ox g:Operand} {x y r:AV} {e f:Value} (i:VR ρ x e) (j:VR ρ y f) (c:iW d x y=some r) :
  ∃v,(do eqGuard d t ox g e f;binOp d t e f:Sem Value).run E.P w=.ok v w∧VR ρ r v:=by
 unfold iW at c;split at c
 ·split at c
  ·rename_i a b k m;split at c
   ·rename_i n;cases c;obtain ⟨c1,c2⟩:=Au n;rw [Hu i k,Hu j m];have o:(eqGuard .add t ox g (.string (AR U.V a)) (.string (AR U.V b))).run E.P w=.ok () w:=B3 (by simp) (fun h _=>by obtain ⟨p,h⟩:=h;cases h)
    refine ⟨.string (AR U.V a++AR U.V b),?_,.ss (.strCat a b)⟩;simp only [LE,o,E1];exact kf (O1 c1) (O1 c2)
   ·cases c
  ·cases c
 ·cases c
include hE
theorem Yb (k:HR ρ h.blk.get w) {t t' ty:TypeId} {d x a:AV} {e f:Value} {h':Aa} (i:VR ρ d e) (m:VR ρ x f) (g:Ze E t d x h=some (a,h')) (c:Array TypeId) (j:c[0]?=some t) :
  A5 E ρ h h' w (Builtin.copy_ c ty #[e,f]) a:=by unfold Ze at g;cases g
end
end Go.AE
namespace Go.AE
variable [Gl:AJ]
variable [U:Unk]
section
variable {E:Env} (hE:OK E) {ρ:Ren} {h:Aa} {w:World}
theorem SJ {s:Sem Unit} {c:String} {o:Option Aa} (d:∀h',o=some h'→∃a b,s.run E.P w=.ok () b∧HR a h'.blk.get b∧Ext ρ a h h' w b) :
  FL E ρ h w (do s;pure .skip) (EA c o):=by
 cases o with
 |none=>trivial
 |some h'=>
  intro i;obtain ⟨a,b,e,f,g⟩:=d h' rfl;exact ⟨a,Go.undef,b,.inr ⟨by simp [e],rfl⟩,VR.undef a,f,g⟩
theorem L9 {s:Sem Value} {b:String} {o:Option Aa} (c:∀h',o=some h'→∃a,s.run E.P w=.ok (.tuple #[]) a∧HR ρ h'.blk.get a∧Ext ρ ρ h h' w a) :
  FL E ρ h w (do pure (.value (←s))) (EA b o):=by
 cases o with
 |none=>trivial
 |some h'=>
  intro g;obtain ⟨a,d,e,f⟩:=c h' rfl;exact ⟨ρ,Go.undef,a,.inl (by simp [d,Go.undef]),VR.undef ρ,e,f⟩
theorem da {c:Array TypeId} {ty:TypeId} {args:List AV} {b:List Value} {a:AV} (e:VL ρ args b) (d:xp args=some a):∃v,(Builtin.max_ c ty b.toArray).run E.P w=.ok v w∧VR ρ a v:=by
 cases args with
 |nil=>cases d
 |cons x r=>
  obtain ⟨v,j,rfl,hv,f⟩:=e.cons_inv;cases hv<;>first | (cases d;done)|skip
  obtain ⟨u,g,i⟩:=Ur E.P w _ f d;exact ⟨u,by simpa [Builtin.max_] using g,i⟩
theorem cG {c:Array TypeId} {ty:TypeId} {args:List AV} {b:List Value} {a:AV} (e:VL ρ args b) (d:py args=some a):∃v,(Builtin.min_ c ty b.toArray).run E.P w=.ok v w∧VR ρ a v:=by
 cases args with
 |nil=>cases d
 |cons x r=>
  obtain ⟨v,j,rfl,hv,f⟩:=e.cons_inv;cases hv<;>first | (cases d;done)|skip
  obtain ⟨u,g,i⟩:=Ui E.P w _ f d;exact ⟨u,by simpa [Builtin.min_] using g,i⟩
include hE
theorem WT (f:HR ρ h.blk.get w) {t ty:TypeId} {x:AV} {c:Value} {h':Aa} (g:VR ρ x c) (d:TK E t x h=some h') (a:Array TypeId) (e:a[0]?=some t) :
  ∃b,(Builtin.clear_ a ty #[c]).run E.P w=.ok (.tuple #[]) b∧HR ρ h'.blk.get b∧Ext ρ ρ h h' w b:=by unfold TK at d;cases d
theorem QU (o:HR ρ h.blk.get w) {b:Builtin} {ats:Array TypeId} {ty:TypeId} {consts:Array Bool} {args:List AV} {i:List Value} (l:VL ρ args i) :
  FL E ρ h w (builtin b ats ty consts i.toArray) (FM E b ats.toList args h):=by
 unfold FM;split
 ·rename_i t ts x B e;obtain ⟨v,r,rfl,hv,n⟩:=l.cons_inv;have f:ats[0]?=some t:=by rw [←k0,e];rfl
  exact Bc o fun a c=>ca hE o hv c ats f _ (by simp)
 ·rename_i t t' s x e;obtain ⟨v,r,rfl,hv,n⟩:=l.cons_inv;obtain ⟨z,A,rfl,g,j⟩:=n.cons_inv;have:=j.nil_inv;subst this;have p:ats = #[t,t']:=by cases ats;simp_all
  subst p;exact BD fun a h' c q=>PS hE o hv g c q (fun a h' c q=>MF hE o hv g c q)
 ·rename_i t ts d x e;obtain ⟨v,r,rfl,hv,n⟩:=l.cons_inv;obtain ⟨z,A,rfl,g,j⟩:=n.cons_inv;have:=j.nil_inv;subst this;have f:ats[0]?=some t:=by rw [←k0,e];rfl
  exact BD fun a h' c q=>Yb hE o (t':=t) hv g c ats f
 ·rename_i t ts m k e;obtain ⟨v,r,rfl,hv,n⟩:=l.cons_inv;obtain ⟨z,A,rfl,g,j⟩:=n.cons_inv;have:=j.nil_inv;subst this;have f:ats[0]?=some t:=by rw [←k0,e];rfl
  exact L9 fun h' c=>SW hE o hv g c ats f
 ·exact Bc o fun a c=>by
   unfold orA at c;split at c
   ·rename_i u;cases c;exact da l u
   ·exact Xu l c
 ·exact Bc o fun a c=>by
   unfold orA at c;split at c
   ·rename_i u;cases c;exact cG l u
   ·exact Yq l c
 ·exact ⟨rfl,by simp [builtin]⟩
 ·obtain ⟨v,r,rfl,hv,n⟩:=l.cons_inv;have:=n.nil_inv;subst this;have y:=hv;cases hv;exact ⟨rfl,_,y,by simp [builtin,Instr.panic]⟩
 ·rename_i t x e;obtain ⟨v,r,rfl,hv,n⟩:=l.cons_inv;have:=n.nil_inv;subst this;have f:ats[0]?=some t:=by rw [←k0,e];rfl
  exact L9 fun h' c=>WT hE o hv c ats f
 ·trivial
theorem V0 (o:HR ρ h.blk.get w) {tmps:T AV} {g:Operand→Value} (j:EvR ρ tmps g) (c:Call) (ty:TypeId) :
  FL E ρ h w (do let d ←resolve g c ty;invoke d.target d.args) (Dx E tmps c h):=by
 have a:=j.list c.args.toList;have i:(c.args.map g)=(c.args.toList.map g).toArray:=by apply Array.ext';simp
 unfold Dx;cases p:c.callee with
 |builtin b=>
  have e:∃cs,(do let d ←resolve g c ty;invoke d.target d.args)=builtin b c.argTypes ty cs (c.args.toList.map g).toArray:=
   ⟨_,by simp only [resolve,p,pure_bind,invoke,i];rfl⟩
  obtain ⟨cs,e⟩:=e;rw [e];exact QU (w:=w) hE o (b:=b) (ats:=c.argTypes) (ty:=ty) (consts:=cs) a
 |invoke r name=>
  have:=Ep (w:=w) hE o (fn:=.method name) (fn':=.method name) (captured:=[]) (captured':=[]) rfl (VL.nil ρ) (VL.cons (j r) a)
  have e:(do let d ←resolve g c ty;invoke d.target d.args)=invoke (.fn (.method name) #[]) (g r::c.args.toList.map g).toArray:=by
   simp only [resolve,p,pure_bind,i]
   congr 1
   simp
  rw [e];exact this
 |value f=>
  simp only [];have m:=j f;cases hv:Ah tmps f with
  |func fn first captured=>
   rw [hv] at m;cases k:g f with
   |func fn' n captured'=>
    rw [k] at m;cases m with
    |func _ _ _ _ q s t u v x y=>
     have:=Ep (w:=w) hE o t (captured:=captured) (captured':=s) ⟨x,y⟩ (VL.append (l:=first) (l':=q) ⟨u,v⟩ a)
     have e:(do let d ←resolve g c ty;invoke d.target d.args)=invoke (.fn fn' s.toArray) (q++c.args.toList.map g).toArray:=by
      simp only [resolve,p,k,Deferred.ofValue,pure_bind,i]
      congr 1
      simp
     rw [e];exact this
   |_=>rw [k] at m;cases m
  |_=>trivial
omit hE in
theorem SI {tmps:T AV} {ev:Operand→Value} (hev:EvR ρ tmps ev) (c:Call) (ty:TypeId) :
  FL E ρ h w (do pure (.defer (←resolve ev c ty))) (Hd tmps c h):=by
 have hargs:=hev.list c.args.toList;have hmap:(c.args.map ev)=(c.args.toList.map ev).toArray:=by apply Array.ext';simp
 unfold Hd;cases hc:c.callee with
 |value f=>
  simp only [];have hf:=hev f;cases hv:Ah tmps f with
  |func fn first captured=>
   rw [hv] at hf;cases hvf:ev f with
   |func fn' first' captured'=>
    rw [hvf] at hf;cases hf with
    |func _ _ _ _ f' c' q1 q2 q3 q4 q5=>
     refine ⟨rfl,{target:=.fn fn' c'.toArray,args:=(f'++c.args.toList.map ev).toArray},?_,?_⟩
     ·exact ⟨fn',c',f'++c.args.toList.map ev,q1,⟨q4,q5⟩,VL.append (l:=first) (l':=f') ⟨q2,q3⟩ hargs,rfl⟩
     ·simp [resolve,hc,hvf,Deferred.ofValue,hmap]
   |_=>rw [hvf] at hf;cases hf
  |_=>trivial
 |_=>trivial
end
end Go.AE
namespace Go.AE
variable [Gl:AJ]
variable [U:Unk]
section
variable {E:Env} (hE:OK E) {ρ:Ren} {h:Aa} {w:World}
include hE
omit hE in
theorem BQ (hr:HR ρ h.blk.get w) {s:Sem Next} {a:AV} {v:Value} (hs:s.run E.P w=.ok (.value v) w) (hv:VR ρ a v):FL E ρ h w s (.val a h):=
 fun _=>⟨ρ,v,w,.inl hs,hv,hr,Ext.refl ρ h w⟩
omit hE in
theorem Io {tmps:T AV} {ev:Operand→Value} (hev:EvR ρ tmps ev) (o:Option Operand):(∀a,A6 tmps o=some a→∃v,o.map ev=some v∧VR ρ a v)∧(A6 tmps o=none→o.map ev=none):=by
 cases o with
 |none=>exact ⟨(fun a h=>by cases h),fun _=>rfl⟩
 |some x=>exact ⟨fun a h=>by simp only [A6,C2] at h;subst h;exact ⟨ev x,rfl,hev x⟩,(fun h=>by cases h)⟩
theorem wS {t:TypeId} {b:Array (String×TypeId)} (c:E.desc t=some (.interface b)) (d:Nat):(Op.equalIn (d+1) t .nilIface .nilIface).run E.P w=.ok true w:=by
 simp [Op.equalIn,hE.run_und c]
theorem Ie (hr:HR ρ h.blk.get w) {tmps:T AV} {ev:Operand→Value} (hev:EvR ρ tmps ev) (o:Oper):FL E ρ h w (execOp ev o) (aop E tmps h o.op):=by
 unfold execOp aop;cases ae:o.op with
 |move x=>exact BQ hr (by simp) (hev x)
 |assign x=>exact BQ hr (by simp) (hev x)
 |pick c a b=>
  simp only [];have u:=hev c;cases hv:Ah tmps c with
  |bool t=>
   rw [hv] at u;cases B:ev c with
   |bool t'=>
    rw [B] at u;cases u;cases t with
    |true=>exact BQ hr (by simp [asBool]) (hev a)
    |false=>exact BQ hr (by simp [asBool]) (hev b)
   |_=>rw [B] at u;cases u
  |sb pos e=>
   rw [hv] at u;simp only [];split
   ·rename_i q g;have F:=Aw U.ok g;cases B:ev c with
    |bool t'=>
     rw [B] at u;cases u;rw [F];split
     ·rename_i H;rw [H];exact BQ hr (by simp [asBool]) (hev a)
     ·rename_i H;rw [H];exact BQ hr (by simp [asBool]) (hev b)
    |_=>rw [B] at u;cases u
   ·trivial
  |_=>trivial
 |alloc t=>
  simp only [];cases hz:E.zero t with
  |none=>trivial
  |some z=>
   intro p;obtain ⟨W,v,X,A,G,I,J⟩:=Xi hE hr (p h.nx (L1 _) (by simp [Bx,Aa.new])) hz
   exact ⟨W,v,X,.inl (by simp [A]),G,I,J⟩
 |box t x=>
  simp only [];cases ht:(Ah tmps x).isTop with
  |true=>trivial
  |false=>
   intro p;obtain ⟨W,v,X,A,G,I,J⟩:=fL (E:=E) (t:=t) hr (p h.nx (L1 _) (by simp [Bx,Aa.new])) (hev x) (by rintro e;rw [e] at ht;cases ht)
   exact ⟨W,v,X,.inl (by simp [A]),G,I,J⟩
 |build t K=>
  have H:=hev.parts K.toList;have C:(K.map fun (i,x)=>(i,ev x))=(K.toList.map fun (i,x)=>(i,ev x)).toArray:=by apply Array.ext';simp
  simp only [C];exact Bc hr fun a g=>Wu hE H g
 |buildSlice t len K=>
  have H:=hev.parts K.toList;have C:(K.map fun (i,x)=>(i,ev x))=(K.toList.map fun (i,x)=>(i,ev x)).toArray:=by apply Array.ext';simp
  simp only [C];exact BD fun a h' g p=>LV hE hr H g p
 |load t a=>exact Bc hr fun x g=>XA hE hr (hev a) g
 |store t a x=>exact SJ fun h' g=>Rz hE hr (hev a) (hev x) g
 |nilCheck x=>
  simp only [];have n:=hev x;cases hv:Ah tmps x<;>try trivial
  all_goals (rw [hv] at n)
  ·cases j:ev x<;>rw [j] at n<;>cases n
   exact BQ hr rfl (.ptr _ _ _ (by assumption))
  ·rename_i fn f c;cases fn<;>try trivial
   ·cases j:ev x with
    |func Y Z c'=>
     rw [j] at n;cases n with
     |func _ _ _ _ Z c' A G I J q5=>
      have L:=A;simp only [FnR] at A;subst A;exact BQ hr rfl (.func _ _ _ _ _ _ L G I J q5)
    |_=>rw [j] at n;cases n
   ·cases j:ev x with
    |func Y Z c'=>
     rw [j] at n;cases n with
     |func _ _ _ _ Z c' A G I J q5=>
      have L:=A;obtain ⟨base,hb,rfl⟩:=A;exact BQ hr rfl (.func _ _ _ _ _ _ L G I J q5)
    |_=>rw [j] at n;cases n
  ·cases j:ev x<;>rw [j] at n<;>cases n
   exact BQ hr rfl (.iface _ _ _ (by assumption))
  ·cases j:ev x<;>rw [j] at n<;>cases n
   exact BQ hr rfl (.aptr _ _ _ _ _ (by assumption) (by assumption))
 |binOp N t x y ty=>
  refine Bc hr fun a g=>?_
  unfold jg at g;cases O:((Ah tmps x).isSym||(Ah tmps y).isSym) with
  |true=>
   rw [O] at g;simp only [] at g;split at g
   ·rename_i r D;cases g;exact iq hE (hev x) (hev y) D
   ·split at g
    ·rename_i r D;cases g;exact bu (hev x) (hev y) D
    ·exact aQ (hev x) (hev y) g
  |false=>
  rw [O] at g;simp only [] at g;cases hn:((Ah tmps x).isNil&&(Ah tmps y).isNil) with
  |false=>
   rw [hn] at g;simp only [] at g;split at g
   ·rename_i r D;cases g;exact VS hE (hev x) (hev y) D
   ·exact XE hE (hev x) (hev y) g
  |true=>
   rw [hn] at g;simp only [] at g;obtain ⟨n1,n2⟩:=Au hn
   have e1:Ah tmps x=.nilIface:=by
    generalize Ah tmps x=a at n1;cases a<;>first|rfl|cases n1
   have e2:Ah tmps y=.nilIface:=by
    generalize Ah tmps y=a at n2;cases a<;>first|rfl|cases n2
   have v1:=hev x;have v2:=hev y;rw [e1] at v1;rw [e2] at v2;generalize n:ev x=xv at v1;generalize hy:ev y=yv at v2;cases v1;cases v2;cases u:(Region.isConst x||Region.isConst y) with
   |false=>rw [u] at g;cases g
   |true=>
    rw [u] at g;cases F:E.desc t with
    |none=>rw [F] at g;cases g
    |some d=>
     rw [F] at g;cases d<;>first | (cases g;done)|skip
     have hu:=hE.run_und F w
     have hg:(eqGuard N t x y .nilIface .nilIface).run E.P w=.ok () w:=by
      unfold eqGuard;rcases orF u with q|q
      ·cases x<;>simp only [Region.isConst,Ts] at q
       cases N<;>simp
      ·cases y<;>simp only [Region.isConst,Ts] at q
       cases N<;>cases x<;>simp
     have Q:(Op.equal t .nilIface .nilIface).run E.P w=.ok true w:=wS hE F 9999;have aa:binOp .eql t .nilIface .nilIface=(do pure (.bool (←Op.equal t .nilIface .nilIface))):=rfl
     have ab:binOp .neq t .nilIface .nilIface=(do pure (.bool (!(←Op.equal t .nilIface .nilIface)))):=rfl
     cases N<;>first | (cases g;done)|skip
     ·simp only [C2] at g;subst g;exact ⟨.bool true,by rw [aa];simp only [LE,hg,E1,Q,L2],.bool _⟩
     ·simp only [C2] at g;subst g;exact ⟨.bool false,by rw [ab];simp only [LE,hg,E1,Q,L2,Bool.not_true],.bool _⟩
 |unOp N t x=>exact Bc hr fun a g=>iP (hev x) g
 |convert s d x=>exact BD fun a h' g p=>Z7 hE hr (hev x) g p
 |makeInterface t x=>
  simp only [];cases F:E.desc t with
  |none=>trivial
  |some d=>
   cases d<;>first|trivial|exact BQ hr (by simp [Instr.makeInterface,hE.run_und F]) (.iface t _ _ (hev x))
 |makeFunc fn first captured=>
  have S:=hev.list first.toList;have V:=hev.list captured.toList;have e1:first.map ev=(first.toList.map ev).toArray:=by apply Array.ext';simp
  have e2:captured.map ev=(captured.toList.map ev).toArray:=by apply Array.ext';simp
  cases fn with
  |yield l=>trivial
  |_=>exact BQ hr (by simp only [Instr.makeFunc,LE,L2,E1,e1,e2]) (.func _ _ _ _ _ _ rfl S.1 S.2 V.1 V.2)
 |makeMap t r=>
  have mk:∀{s:Sem Next},s.run E.P w=.ok (.value (.map (some w.heap.size))) {w with heap:=w.heap.push (.map #[] 0)}→FL E ρ h w s (.val (.map h.nx) (h.new (.map [] 0))):=by
   intro s hs p;have M:ρ h.nx=none:=p h.nx (L1 _) (by simp [Aa.new])
   obtain ⟨p1,p2⟩:=hr.new M (.map [] 0) (.map #[] 0) 0 ⟨[],rfl,trivial⟩ {w with heap:=w.heap.push (.map #[] 0)} rfl rfl rfl rfl
   exact ⟨_,_,_,.inl hs,.map h.nx _ (Ren.upd_same _ _ _),p1,p2⟩
  cases r with
  |none=>exact mk (by simp [Instr.makeMap])
  |some r=>
   simp only [];have n:=hev r;cases F:E.desc t with
   |none=>trivial
   |some d=>
    cases d<;>try trivial
    cases hv:Ah tmps r<;>try trivial
    rw [hv] at n;cases j:ev r<;>rw [j] at n<;>cases n
    exact mk (by simp [Instr.makeMap,j,hE.run_und F,asInt,asIntOf])
 |makeSlice t l c=>exact BD fun a h' g p=>ND hE hr (hev l) (hev c) g p
 |slice t x lo hi R=>
  refine BD fun a h' g p=>?_
  obtain ⟨a1,a2⟩:=Io hev lo;obtain ⟨b1,b2⟩:=Io hev hi;obtain ⟨c1,c2⟩:=Io hev R
  have ac:A6 tmps R≠none→A6 tmps hi≠none:=by
   cases R with
   |none=>intro q;exact absurd rfl q
   |some m=>cases hi with
    |none=>cases g
    |some i=>intro _ q;cases q
  have ad:sliceB E t (Ah tmps x) (A6 tmps lo) (A6 tmps hi) (A6 tmps R) h=some (a,h'):=by
   cases R<;>cases hi<;>first|exact g|cases g
  exact WR hE hr (hev x) a1 a2 b1 b2 c1 c2 ac ad
 |fieldAddr t x f=>exact Bc hr fun a g=>NP hE (hev x) g
 |field t x f=>exact Bc hr fun a g=>WU hE (hev x) g
 |indexAddr t x i=>exact Bc hr fun a g=>NH hE (hev x) (hev i) g
 |index t x i=>exact Bc hr fun a g=>V4 hE (hev x) (hev i) g
 |lookup t m k ok=>exact Bc hr fun a g=>TN hE hr (hev m) (hev k) g
 |mapUpdate t m k v=>exact Kl fun h' g=>SQ hE hr (hev m) (hev k) (hev v) g
 |insert t m k v=>exact Kl fun h' g=>Ir hE hr (hev m) (hev k) (hev v) g
 |mapEntry t m k=>exact BD fun a h' g p=>Wf hE hr (hev m) (hev k) g p
 |entryStore t m s v=>exact Kl fun h' g=>ME hE hr (hev m) (hev s) (hev v) g
 |range t x=>exact BD fun a h' g p=>WW hE hr (hev x) g p
 |next it af=>exact BD fun a h' g p=>Xa hr (hev it) g
 |entry it=>exact Bc hr fun a g=>NQ hr (hev it) g
 |typeAssert x xt t ok=>exact Bc hr fun a g=>UB hE (hev x) g
 |extract t i=>
  simp only [];have n:=hev t;cases hv:Ah tmps t<;>try trivial
  rw [hv] at n;cases j:ev t<;>rw [j] at n<;>cases n
  rename_i l l' S V;refine Bc hr fun a g=>?_
  obtain ⟨v,A,G⟩:=VL.get (l:=l) (l':=l') ⟨S,V⟩ g;exact ⟨v,by simp [Instr.extract,A],G⟩
 |call c=>exact V0 hE hr hev c o.type
 |defer c=>exact SI hev c o.type
 |panic x=>
  simp only [];have n:=hev x;cases hv:Ah tmps x<;>try trivial
  rw [hv] at n;cases j:ev x<;>rw [j] at n<;>cases n
  exact ⟨rfl,_,.iface _ _ _ (by assumption),by simp [Instr.panic]⟩
 |_=>trivial
end
end Go.AE
namespace Go.AE
variable [Gl:AJ]
variable [U:Unk]
section
variable {P:Program} {fr:Frame} {k:List Item} {cs:List Frame} {w:World}
theorem kX {a b:Code} (c:fr.mode=.run) (d:fr.todo=.code (.seq a b)::k):step P (lone fr cs w)=.next (lone {fr with todo:=.code a::.code b::k} cs w):=
 step_lone_go (by cases fr;simp only at c d;subst c;subst d;simp [stepG,stepG.exec])
theorem aA (a:fr.mode=.run) (b:fr.todo=.code .skip::k):step P (lone fr cs w)=.next (lone {fr with todo:=k} cs w):=
 step_lone_go (by cases fr;simp only at a b;subst a;subst b;simp [stepG,stepG.exec])
theorem Xd {l:Nat} (a:fr.mode=.run) (b:fr.todo=.code (.label l)::k):step P (lone fr cs w)=.next (lone {fr with todo:=k} cs w):=
 step_lone_go (by cases fr;simp only at a b;subst a;subst b;simp [stepG,stepG.exec])
theorem Ux {l:Nat} (a:fr.mode=.run) (b:fr.todo=.inBlock l::k):step P (lone fr cs w)=.next (lone {fr with todo:=k} cs w):=
 step_lone_go (by cases fr;simp only at a b;subst a;subst b;simp [stepG,stepG.exec])
theorem Uf {l:Code} (a:fr.mode=.run) (b:fr.todo=.inScope l::k):step P (lone fr cs w)=.next (lone {fr with todo:=k} cs w):=
 step_lone_go (by cases fr;simp only at a b;subst a;subst b;simp [stepG,stepG.exec])
theorem Li {c:Operand} {x y:Code} {b:Bool} (a:fr.mode=.run) (d:fr.todo=.code (.cond c x y)::k) (e:fr.eval c=.bool b):step P (lone fr cs w)=.next (lone {fr with todo:=.code (if b then x else y)::k} cs w):=
 step_lone_go (by cases fr;simp only at a d;subst a;subst d;simp [stepG,stepG.exec,e])
theorem Zi {id:Nat} {c:Code} (a:fr.mode=.run) (b:fr.todo=.code (.block id c)::k):step P (lone fr cs w)=.next (lone {fr with todo:=.code c::.inBlock id::k} cs w):=
 step_lone_go (by cases fr;simp only at a b;subst a;subst b;simp [stepG,stepG.exec])
theorem bW {c:Code} (a:fr.mode=.run) (b:fr.todo=.code (.loop c)::k):step P (lone fr cs w)=.next (lone {fr with todo:=.code c::.inLoop c::k} cs w):=
 step_lone_go (by cases fr;simp only at a b;subst a;subst b;simp [stepG,stepG.exec])
theorem VX {c:Code} (a:fr.mode=.run) (b:fr.todo=.inLoop c::k):step P (lone fr cs w)=.next (lone {fr with todo:=.code c::.inLoop c::k} cs w):=
 step_lone_go (by cases fr;simp only at a b;subst a;subst b;simp [stepG,stepG.exec])
theorem YP {c:Code} (a:fr.mode=.run) (b:fr.todo=.code (.scope c)::k):step P (lone fr cs w)=.next (lone {fr with todo:=.code c::.inScope c::k} cs w):=
 step_lone_go (by cases fr;simp only at a b;subst a;subst b;simp [stepG,stepG.exec])
theorem We {id:Nat} {ops:Array Oper} (a:fr.mode=.run) (b:fr.todo=.code (.region id ops false)::k):step P (lone fr cs w)=.next (lone {fr with todo:=.inRegion ops (List.range ops.size)::k} cs w):=
 step_lone_go (by cases fr;simp only at a b;subst a;subst b;simp [stepG,stepG.exec])
theorem bh {id:Nat} {ops:Array Oper} (a:fr.mode=.run) (b:fr.todo=.code (.region id ops true)::k) :
  step P (lone fr cs w)=.next (lone {fr with todo:=.inRegion ops (Region.schedule (P.follows .mixedOrders) ops (w.tape w.drawn (.order fr.fn id)))::k} cs {w with drawn:=w.drawn+1}):=
 step_lone_go (by cases fr;simp only at a b;subst a;subst b;simp [stepG,stepG.exec,choose,Sem.run,Question.forced,Question.cut])
theorem JA {ops:Array Oper} (a:fr.mode=.run) (b:fr.todo=.inRegion ops []::k):step P (lone fr cs w)=.next (lone {fr with todo:=k} cs w):=
 step_lone_go (by cases fr;simp only at a b;subst a;subst b;simp [stepG,stepG.exec])
theorem bI {id:Nat} {a:List Item} (b:fr.mode=.run) (c:fr.todo=.code (.exit id)::k) (d:exitTo id k=some a):step P (lone fr cs w)=.next (lone {fr with todo:=a} cs w):=
 step_lone_go (by cases fr;simp only at b c;subst b;subst c;simp [stepG,stepG.exec,d])
theorem bE {l:Nat} {a:List Item} (b:fr.mode=.run) (c:fr.todo=.code (.goto l)::k) (d:gotoIn l k=some a):step P (lone fr cs w)=.next (lone {fr with todo:=a} cs w):=
 step_lone_go (by cases fr;simp only at b c;subst b;subst c;simp [stepG,stepG.exec,d])
theorem jk (b:fr.mode=.run) (a:fr.todo=[]∨∃k,fr.todo=.code .ret::k) (c:fr.roundOf=none):step P (lone fr cs w)=.next (lone {fr with mode:=.returning} cs w):=by
 rcases a with a|⟨k,a⟩<;>
 exact step_lone_go (by cases fr;simp only at b a c;subst b;subst a;subst c;simp [stepG,stepG.exec])
theorem Rt {l:Nat} {a:Option Code} {c:Frame} {d:World} {v:Value} (e:fr.mode=.run) (f:fr.roundOf=some l) (g:fr.kind=.normal)
  (b:(fr.todo=[]∧a=none)∨(∃k,fr.todo=.code .ret::k∧a=some .ret)∨(∃id k,fr.todo=.code (.exit id)::k∧exitTo id k=none∧a=some (.exit id))∨(∃l k,fr.todo=.code (.goto l)::k∧gotoIn l k=none∧a=some (.goto l)))
  (h:(Instr.endRound l a).run P w=.ok v d):step P (lone fr (c::cs) w)=.next (lone (c.finish v) cs d):=by
 rcases b with ⟨b,rfl⟩|⟨k,b,rfl⟩|⟨id,k,b,i,rfl⟩|⟨j,k,b,i,rfl⟩<;>
 exact step_lone_go (by cases fr;simp only at e b f g;subst e;subst b;subst f;subst g;simp [stepG,stepG.exec,Sem.runT_eq,doReturn, *])
theorem OQ {ops:Array Oper} {i:Nat} {rest:List Nat} {o:Oper} (a:fr.mode=.run) (b:fr.todo=.inRegion ops (i::rest)::k) (d:ops[i]?=some o) (c:Region.wanted o (yielded ops fr.tmps)=false) :
  step P (lone fr cs w)=.next (lone (fr.finish undef) cs w):=
 step_lone_go (by cases fr;simp only at a b;subst a;subst b;simp at c;simp [stepG,stepG.exec,d,c])
theorem FI {ops:Array Oper} {i:Nat} {rest:List Nat} {o:Oper} (e:fr.mode=.run) (f:fr.todo=.inRegion ops (i::rest)::k) (g:ops[i]?=some o) (b:Region.wanted o (yielded ops fr.tmps)=true)
  (a:fr.roundOf=none∨∀c,o.op≠.defer c) :
  stepG P true {frame:=fr,callers:=cs,status:=.running,dying:=none} w=stepG.apply P true fr cs none (execOp fr.eval o) w:=by
 cases fr;simp only at e f a;subst e;subst f;simp at b;rcases a with a|a
 ·subst a;simp [stepG,stepG.exec,stepG.oper,Frame.oper?,g,b]
 ·simp only [stepG,stepG.exec,g,pv,b,zH,if_true,stepG.oper,Frame.oper?];split
  ·rename_i c d;exact absurd d (a c)
  ·rfl
theorem UD {ops:Array Oper} {i:Nat} {rest:List Nat} {o:Oper} {b:World} {v:Value} (d:fr.mode=.run) (e:fr.todo=.inRegion ops (i::rest)::k) (f:ops[i]?=some o) (g:Region.wanted o (yielded ops fr.tmps)=true)
  (h:fr.roundOf=none∨∀c,o.op≠.defer c) (a:(execOp fr.eval o).run P w=.ok (.value v) b∨((execOp fr.eval o).run P w=.ok .skip b∧v=undef)) :
  step P (lone fr cs w)=.next (lone (fr.finish v) cs b):=by
 refine step_lone_go ?_;rw [FI d e f g h];rcases a with a|⟨a,rfl⟩<;>simp [stepG.apply,a]
theorem MJ {ops:Array Oper} {i:Nat} {rest:List Nat} {o:Oper} {f:FuncId} {args:Array Value} {b:World} (e:fr.mode=.run) (d:fr.todo=.inRegion ops (i::rest)::k) (g:ops[i]?=some o) (h:Region.wanted o (yielded ops fr.tmps)=true)
  (j:fr.roundOf=none∨∀c,o.op≠.defer c) (a:(execOp fr.eval o).run P w=.ok (.enter f args) b):step P (lone fr cs w)=.next (lone (Frame.enter P f args .normal) (fr::cs) b):=by
 refine step_lone_go ?_;rw [FI e d g h j];simp [stepG.apply,a,d]
theorem Z1 {ops:Array Oper} {i:Nat} {rest:List Nat} {o:Oper} {l:Nat} {f:FuncId} {tmps:Array Value} {assign body:Code} {b:World} (d:fr.mode=.run) (e:fr.todo=.inRegion ops (i::rest)::k) (g:ops[i]?=some o) (h:Region.wanted o (yielded ops fr.tmps)=true)
  (j:fr.roundOf=none∨∀c,o.op≠.defer c) (a:(execOp fr.eval o).run P w=.ok (.round l f tmps assign body) b):step P (lone fr cs w)=.next (lone (Frame.round l f tmps assign body .normal) (fr::cs) b):=by
 refine step_lone_go ?_;rw [FI d e g h j];simp [stepG.apply,a]
theorem ZE {ops:Array Oper} {i:Nat} {rest:List Nat} {o:Oper} {v:Value} {b:World} (d:fr.mode=.run) (e:fr.todo=.inRegion ops (i::rest)::k) (f:ops[i]?=some o) (g:Region.wanted o (yielded ops fr.tmps)=true)
  (h:fr.roundOf=none∨∀c,o.op≠.defer c) (a:(execOp fr.eval o).run P w=.halt (.panic v) b):step P (lone fr cs w)=.next (lone {fr with mode:=.panicking [{v,recovered:=false}]} cs b):=by
 refine step_lone_go ?_;rw [FI d e f g h];simp [stepG.apply,a,Frame.raise,d]
theorem NO {l:Nat} {b:World} (c:fr.mode=.run) (d:fr.todo=.beginRound::k) (e:fr.roundOf=some l) (a:(Instr.beginRound l).run P w=.ok () b) :
  step P (lone fr cs w)=.next (lone {fr with todo:=k} cs b):=by
 refine step_lone_go ?_;cases fr;simp only at c d e;subst c;subst d;subst e;simp [stepG,stepG.exec,stepG.apply,a,Frame.finish]
theorem TO {l:Nat} {c:World} {a:Option Code} (d:fr.mode=.run) (e:fr.todo=.endRangeFunc l::k) (b:(Instr.endLoop l).run P w=.ok a c) :
  step P (lone fr cs w)=.next (lone {fr with todo:=(a.map Item.code).toList++k} cs c):=by
 refine step_lone_go ?_;cases fr;simp only at d e;subst d;subst e;simp [stepG,stepG.exec,Sem.runT_eq,b]
theorem KX {f:Operand} {params:Array Tmp} {assign body:Code} {l:Nat} {mark:List Deferred} {b:World} (c:fr.mode=.run) (e:fr.todo=.code (.rangeFunc f params assign body)::k)
  (a:(Instr.enterLoop fr.fn fr.tmps params assign body fr.roundOf).run P w=.ok (l,mark) b) :
  (stepG P true {frame:=fr,callers:=cs,status:=.running,dying:=none} w).bare =
  (stepG.apply P true {fr with todo:=.inRangeFunc l::k,defers:=mark++fr.defers} cs none (do let d ←resolve fr.eval {callee:=.value f,args:=#[.const (.func (.yield l) #[] #[])],argTypes:=#[]} 0;invoke d.target d.args) b).bare:=by
 cases fr;simp only at c e a;subst c;subst e;simp only [stepG,stepG.exec,Sem.runT_eq,a,GStep.bare_after]
 congr 2
theorem bl {d:Deferred} {i:List Deferred} {f:FuncId} {args:Array Value} {j:World} (l:fr.mode≠.run) (m:fr.defers=d::i) (e:∀b,d.target≠.collected b) (g:d.target≠.nil)
  (a:(invoke d.target d.args).run P w=.ok (.enter f args) j):step P (lone fr cs w)=.next (lone (Frame.enter P f args .deferred) ({fr with defers:=i}::cs) j):=by
 refine step_lone_go ?_;cases fr with|mk fn tmps todo defers mode kind c=>
 cases d with|mk target h=>
 simp only at l m e g a;subst m;cases mode with
 |run=>exact absurd rfl l
 |returning=>cases target<;>first|exact absurd rfl g|exact absurd rfl (e _)|simp [stepG,unwind,callDeferred,Sem.runT_eq,a]
 |panicking ch=>cases target<;>first|exact absurd rfl g|exact absurd rfl (e _)|simp [stepG,unwind,callDeferred,Sem.runT_eq,a]
theorem XX {b:Nat} {args:Array Value} {d l:List Deferred} {e:World} (f:fr.mode≠.run) (g:fr.defers={target:=.collected b,args}::d)
  (a:(Instr.takeDeferred b).run P w=.ok l e):step P (lone fr cs w)=.next (lone {fr with defers:=l++d} cs e):=by
 refine step_lone_go ?_;cases fr with|mk fn tmps todo defers mode kind c=>
 simp only at f g;subst g;cases mode with
 |run=>exact absurd rfl f
 |returning=>simp [stepG,unwind,Sem.runT_eq,a]
 |panicking ch=>simp [stepG,unwind,Sem.runT_eq,a]
end
end Go.AE
namespace Go.AE
variable [Gl:AJ]
section
variable [U:Vals]
inductive IR (ρ:Ren):AI→Item→Prop
 |code (c:Code):IR ρ (.code c) (.code c)
 |inBlock (id:Nat):IR ρ (.inBlock id) (.inBlock id)
 |inLoop (b:Code):IR ρ (.inLoop b) (.inLoop b)
 |inScope (b:Code):IR ρ (.inScope b) (.inScope b)
 |ops (all:Array Oper) (rest:List Oper) (idx:List Nat) (h:rest.map some=idx.map fun i=>all[i]?):IR ρ (.ops all rest) (.inRegion all idx)
 |inRange (l:Nat) (base:Cr) (h:ρ l=some base):IR ρ (.inRange l) (.inRangeFunc base.cb)
 |endRange (l:Nat) (base:Cr) (h:ρ l=some base):IR ρ (.endRange l) (.endRangeFunc base.cb)
 |beginRound:IR ρ .beginRound .beginRound
 |dead (all:Array Oper) (idx:List Nat):IR ρ .dead (.inRegion all idx)
inductive IL (ρ:Ren):List AI→List Item→Prop
 |nil:IL ρ [] []
 |cons {a:AI} {x:Item} {l:List AI} {l':List Item} (h:IR ρ a x) (k:IL ρ l l'):IL ρ (a::l) (x::l')
 |rest:IL ρ [.rest] U.R
def CL (b:Ren):List (AV×Bool)→List PanicEntry→Prop
 |[],[]=>True
 |a::r,e::c=>VR b a.1 e.v∧e.recovered=a.2∧e.goexit=false∧CL b r c
 |_,_=>False
inductive MR (ρ:Ren):HG→FrameMode→Prop
 |run:MR ρ .run .run
 |ret:MR ρ .ret .returning
 |panic (ch:List (AV×Bool)) (ch':List PanicEntry) (h:CL ρ ch ch'):MR ρ (.panic ch) (.panicking ch')
def RR (ρ:Ren):Option Nat→Option Nat→Prop
 |none,none=>True
 |some l,some c=>∃base,ρ l=some base∧c=base.cb
 |_,_=>False
structure FrR (ρ:Ren) (f:AF) (c:Frame):Prop where
 fn:c.fn=f.fn
 tm:TR ρ f.nt f.tmps c.tmps
 todo:IL ρ f.todo c.todo
 defers:DL ρ f.defers c.defers
 mode:MR ρ f.mode c.mode
 kind:c.kind=f.kind
 round:RR ρ f.round c.roundOf
inductive FrL (ρ:Ren):List AF→List Frame→Prop
 |nil:FrL ρ [] []
 |cons {f:AF} {c:Frame} {l:List AF} {l':List Frame} (h:FrR ρ f c) (k:FrL ρ l l'):FrL ρ (f::l) (c::l')
theorem IR.mono {ρ I:Ren} (t:ρ.le I) {a:AI} {x:Item} (h:IR ρ a x):IR I a x:=by
 cases h with
 |code c=>exact .code c
 |inBlock id=>exact .inBlock id
 |inLoop b=>exact .inLoop b
 |inScope b=>exact .inScope b
 |ops all rest r h=>exact .ops all rest r h
 |inRange l base h=>exact .inRange l base (t.m _ _ h)
 |endRange l base h=>exact .endRange l base (t.m _ _ h)
 |beginRound=>exact .beginRound
 |dead all r=>exact .dead all r
theorem IL.mono {ρ r:Ren} (l:ρ.le r) {a:List AI} {x:List Item} (h:IL ρ a x):IL r a x:=by
 induction h with
 |nil=>exact .nil
 |cons h _ ih=>exact .cons (h.mono l) ih
 |rest=>exact .rest
theorem CL.mono {ρ t:Ren} (r:ρ.le t):∀{l:List (AV×Bool)} {I:List PanicEntry},CL ρ l I→CL t l I
 |[],[],_=>trivial
 |_::_,_::_,⟨J,h2,h3,h4⟩=>⟨J.mono r,h2,h3,h4.mono r⟩
theorem MR.mono {ρ t:Ren} (l:ρ.le t) {a:HG} {x:FrameMode} (h:MR ρ a x):MR t a x:=by
 cases h with
 |run=>exact .run
 |ret=>exact .ret
 |panic ch r h=>exact .panic ch r (h.mono l)
theorem RR.mono {ρ r:Ren} (l:ρ.le r) {a x:Option Nat} (h:RR ρ a x):RR r a x:=by
 cases a<;>cases x<;>simp only [RR] at h ⊢
 obtain ⟨base,t,I⟩:=h;exact ⟨base,l.m _ _ t,I⟩
theorem FrR.mono {ρ r:Ren} (l:ρ.le r) {f:AF} {c:Frame} (h:FrR ρ f c):FrR r f c:=
 ⟨h.fn,h.tm.mono l,h.todo.mono l,h.defers.mono l,h.mode.mono l,h.kind,h.round.mono l⟩
theorem FrL.mono {ρ r:Ren} (l:ρ.le r) {f:List AF} {c:List Frame} (h:FrL ρ f c):FrL r f c:=by
 induction h with
 |nil=>exact .nil
 |cons h _ ih=>exact .cons (h.mono l) ih
end
variable [U:Unk]
theorem FrR.evR {ρ:Ren} {f:AF} {c:Frame} (h:FrR ρ f c):EvR ρ f.tmps c.eval:=by
 intro o;have:=Jq h.tm o;cases o<;>exact this
theorem TR.put {ρ:Ren} {nt:Nat} {t:T AV} {a:Array Value} (h:TR ρ nt t a) {d:Nat} {v:AV} {r:Value} (I:d<nt) (hv:VR ρ v r):TR ρ nt (t.set d v) (a.setIfInBounds d r):=by
 refine ⟨by simp [h.size],fun i x l=>?_⟩
 rw [T.get_set] at l;by_cases e:d=i
 ·subst e;rw [if_pos rfl] at l;cases l;have:d<a.size:=by rw [h.size];exact I
  simpa [Mf,this] using hv
 ·rw [if_neg e] at l;have:=h.get i x l;simpa [Mf,qs e] using this
def I9 (a:Array Value) (dst:Option Tmp) (v:Value):Array Value:=match dst with|some d=>a.setIfInBounds d v|none=>a
theorem bf {c:Ren} {nt:Nat} {t f:T AV} {a:Array Value} (h:TR c nt t a) {dst:Option Tmp} {v:AV} {g:Value} (b:EB nt t dst v=some f) (hv:VR c v g) :
  TR c nt f (I9 a dst g):=by
 cases dst with
 |none=>simp only [EB,C2] at b;subst b;exact h
 |some d=>
  simp only [EB] at b;cases e:Nat.blt d nt with
  |false=>rw [e] at b;cases b
  |true=>
   rw [e] at b;simp only [C2] at b;subst b;exact h.put (by simpa [Nat.blt_eq] using e) hv
theorem VR.not_bool {ρ:Ren} {a:AV} {v:Value} (h:VR ρ a v) (l:∀b,a≠.bool b) (r:a≠.top) (t:∀p e,a≠.sb p e) (b:Bool):v≠.bool b:=by
 cases h with
 |sb p e=>exact absurd rfl (t p e)
 |top v=>exact absurd rfl r
 |bool c=>exact absurd rfl (l c)
 |_=>exact fun e=>by cases e
theorem Ce {s:Ren} {nt:Nat} {t:T AV} {a:Array Value} (h:TR s nt t a) {all:Array Oper} {o:Oper} {b:Bool} (f:BL all o t=some b):Region.wanted o (yielded all a)=b:=by
 unfold BL at f;unfold Region.wanted;cases n:o.guard with
 |none=>rw [n] at f;simpa using f
 |some p=>
  obtain ⟨j,k⟩:=p;rw [n] at f;simp only at f ⊢;unfold yielded;have u:all[j]?=all.toList[j]?:=by simp
  rw [u];cases hj:all.toList[j]? with
  |none=>rw [hj] at f;simp at f ⊢;exact f
  |some g=>
   rw [hj] at f;simp only [Option.bind_some] at f ⊢;cases r:g.dst with
   |none=>rw [r] at f;simp at f ⊢;exact f
   |some d=>
    rw [r] at f;simp only [Option.bind_some] at f ⊢;cases l:t.get d with
    |none=>rw [l] at f;cases f
    |some v=>
     rw [l] at f;have hv:=h.get d v l;rw [Mf] at hv
     have m:(∀b,v≠.bool b)→v≠.top→(∀p e,v≠.sb p e)→((match a[d]? with|some (.bool b)=>some b|_=>none)==some k)=false:=by
      intro w y z;cases i:a[d]? with
      |none=>rfl
      |some x=>
       rw [i] at hv;cases x with
       |bool c=>exact absurd rfl (hv.not_bool w y z c)
       |_=>rfl
     cases v with
     |top=>cases f
     |sb p e=>
      simp only at f;split at f
      ·rename_i q A;have B:=Aw U.ok A;simp only [C2] at f;cases i:a[d]? with
       |none=>rw [i] at hv;cases hv
       |some x=>
        rw [i] at hv;cases hv;rw [B];simpa using f
      ·cases f
     |bool e=>
      simp only [C2] at f;cases i:a[d]? with
      |none=>rw [i] at hv;cases hv
      |some x=>
       rw [i] at hv;cases hv;subst f;simp
     |_=>
      simp only [C2] at f;subst f;exact m (fun b e=>by cases e) (fun e=>by cases e) (fun p b e=>by cases e)
end Go.AE
namespace Go.AE
variable [Gl:AJ]
variable [U:Unk]
theorem IL.ops_inv {ρ:Ren} {all:Array Oper} {o:Oper} {rest:List Oper} {k:List AI} {l:List Item} (h:IL ρ (.ops all (o::rest)::k) l) :
  ∃i r t,l=.inRegion all (i::r)::t∧all[i]?=some o∧rest.map some=r.map (fun i=>all[i]?)∧IL ρ k t:=by
 cases h with
 |cons h I=>
  cases h with
  |ops all rest r h=>
   cases r with
   |nil=>cases h
   |cons i r=>
    simp only [zx,List.cons.injEq] at h;exact ⟨i,r,_,rfl,h.1.symm,h.2,I⟩
theorem BJ {n:Ren} {f r:AF} {c:Frame} (h:FrR n f c) {v:AV} {m:Value} (d:B2 f v=some r) (hv:VR n v m):FrR n r (c.finish m):=by
 have b:=h.todo;unfold B2 at d;split at d
 ·rename_i all o rest k g;rw [g] at b;obtain ⟨i,p,s,e,u,w,j⟩:=b.ops_inv;split at d
  ·rename_i t x;simp only [C2] at d;subst d;have:=bf h.tm x hv
   have y:c.finish m={c with tmps:=I9 c.tmps o.dst m,todo:=.inRegion all p::s}:=by
    simp only [Frame.finish,e,u,Option.bind_some,I9];cases o.dst<;>rfl
   rw [y];exact ⟨h.fn,this,.cons (.ops _ _ _ w) j,h.defers,h.mode,h.kind,h.round⟩
  ·cases d
 ·rename_i l k g;rw [g] at b;simp only [C2] at d;subst d;generalize q:c.todo=z at b;cases b with
  |cons a j=>
   cases a with
   |inRange l base A=>
    simp only [Frame.finish,q];exact ⟨h.fn,h.tm,.cons (.endRange _ _ A) j,h.defers,h.mode,h.kind,h.round⟩
 ·rename_i k g;rw [g] at b;simp only [C2] at d;subst d;generalize q:c.todo=z at b;cases b with
  |cons a j=>
   cases a with
   |beginRound=>
    simp only [Frame.finish,q];exact ⟨h.fn,h.tm,j,h.defers,h.mode,h.kind,h.round⟩
 ·cases d
theorem TR.ofArgs {ρ:Ren} {n:Nat} {args:List AV} {l:List Value} (t:VL ρ args l):TR ρ (max n args.length) (.ofList args) (l.toArray++Array.replicate (n-l.toArray.size) undef):=by
 have J:=t.1;refine ⟨by simp;omega,fun i x I=>?_⟩
 rw [T.get_ofList] at I;obtain ⟨v,hv,r⟩:=t.get I;have hi:i<l.length:=(LT.1 hv).1;rw [Mf,zu (by simpa using hi)]
 simpa [hv] using r
theorem B7 {E:Env} (hE:OK E) {d:Ren} {f:FuncId} {args:List AV} {a:List Value} {kind:CallKind} {g:AF} (b:Be E f args kind=some g) (h:VL d args a) :
  FrR d g (Frame.enter E.P f a.toArray kind):=by
 unfold Be at b;split at b
 ·rename_i fn i;split at b
  ·rename_i c j;simp only [C2] at b;subst b
   have e:Frame.enter E.P f a.toArray kind={fn:=f,tmps:=a.toArray++Array.replicate (fn.ntmps-a.toArray.size) undef,todo:=[.code c],defers:=[],mode:=.run,kind}:=by
    simp [Frame.enter,hE.fn f fn i,j]
   rw [e];exact ⟨rfl,TR.ofArgs h,.cons (.code c) .nil,trivial,.run,rfl,trivial⟩
  ·cases b
 ·cases b
theorem JF {g:Ren} {nt:Nat}:∀{f:List Tmp} {t d:T AV} {tm:Array Value} {args:List AV} {b:List Value},TR g nt t tm→VL g args b→Fq nt t f args=some d→
  b.length=f.length∧TR g nt d ((f.zip b).foldl (fun tmps x=>tmps.setIfInBounds x.1 x.2) tm)
 |[],t,d,tm,[],b,h,e,c=>by
  cases e.nil_inv;simp only [Fq,C2] at c;subst c;exact ⟨rfl,h⟩
 |[],t,d,tm,_::_,b,h,e,c=>by cases c
 |_::_,t,d,tm,[],b,h,e,c=>by cases c
 |p::f,t,d,tm,a::as,b,h,e,c=>by
  obtain ⟨v,r,rfl,j,k⟩:=e.cons_inv;simp only [Fq] at c;cases i:Nat.blt p nt with
  |false=>rw [i] at c;cases c
  |true=>
   rw [i] at c;obtain ⟨l,m⟩:=JF (h.put (by simpa [Nat.blt_eq] using i) j) k c
   exact ⟨by simp [l],m⟩
theorem NT {E:Env} {c:Ren} {h:Aa} {w:World} (j:HR c h.blk.get w) {l:Nat} {base:Cr} {args:List AV} {a:List Value} {g:AF} (i:c l=some base) (b:GZ l args h=some g) (k:VL c args a) :
  ∃fn tm assign body,(Instr.yield base.cb a.toArray).run E.P w=.ok (.round base.cb fn tm assign body) w∧FrR c g (Frame.round base.cb fn tm assign body .normal):=by
 unfold GZ at b;split at b
 ·rename_i st pending fn nt tmps params assign body d m;split at b
  ·rename_i t n;simp only [C2] at b;subst b;obtain ⟨tm,s,u,o,p⟩:=j.blk l base _ i m;obtain ⟨q,r⟩:=JF o k n;refine ⟨fn,_,assign,body,?_,⟨rfl,r,.cons (.code _) (.cons .beginRound (.cons (.code _) .nil)),trivial,.run,rfl,⟨base,i,rfl⟩⟩⟩;have f:=A7 E.P p (fun _ _ _ e=>by cases e)
   simp only [Instr.yield,Instr.getLoop,LE,f,E1,L2];simp [q]
  ·cases b
 ·cases b
end Go.AE
namespace Go.AE
variable [Gl:AJ]
section
variable [U:Vals]
structure SR (ρ:Ren) (s:AS) (cf:Frame) (ccs:List Frame) (w:World):Prop where
 fr:FrR ρ s.fr cf
 cs:FrL ρ s.cs ccs
 h:HR ρ s.h.blk.get w
end
variable [U:Unk]
def AZ (P:Program) (base:List Frame) (i:Ren) (h:Aa) (c:Frame) (d:List Frame) (w0 w:World) (f:AS):Prop:=
 ∃g b a e,step P (lone c (d++base) w0)=.next (lone b (a++base) e)∧SR g f b a e∧Ext i g h f.h w e
theorem IL.not_call {ρ:Ren} {l:List AI} {t:List Item} (h:IL ρ l t) (d:Deferred) (b:Bool) (r:String) (a:Array Value) (k:List Item):t≠.call d b r a::k:=by
 intro e;cases h with
 |nil=>cases e
 |cons h _=>cases e;cases h
 |rest=>exact U.hR _ _ _ _ _ e
section
variable {E:Env} (hE:OK E) {ρ:Ren} {h:Aa} {w w0:World} {fr0 c:Frame} {f:AF} {cs:List AF} {ccs base:List Frame} {s:Sem Next} {r:Res} {s':AS}
include hE
theorem Oo (n:(stepG E.P true {frame:=fr0,callers:=ccs++base,status:=.running,dying:=none} w0).bare=(stepG.apply E.P true c (ccs++base) none s w).bare)
  (J:FL E ρ h w s r) (F:HR ρ h.blk.get w) (o:FrR ρ f c) (u:FrL ρ cs ccs) (hm:c.mode=.run) (b:BS E f cs r=.next s') (G:AW ρ h.nx s'.h.nx) :
  AZ E.P base ρ h fr0 ccs w0 w s':=by
 cases r with
 |val v h'=>
  simp only [BS] at b;split at b
  ·rename_i Q p;cases b;obtain ⟨σ,S,w',K,T,q3,V⟩:=J G;refine ⟨σ,c.finish S,ccs,w',step_lone_go ?_,⟨BJ (o.mono V.le) p T,u.mono V.le,q3⟩,V⟩;rw [n];rcases K with K|⟨K,rfl⟩<;>simp [stepG.apply,K]
  ·cases b
 |enter g args h'=>
  obtain ⟨rfl,H,z,i⟩:=J;simp only [BS] at b;split at b
  ·rename_i g' W;cases b;refine ⟨ρ,_,c::ccs,w,step_lone_go ?_,⟨B7 hE W z,.cons o u,F⟩,Ext.refl _ _ _⟩;rw [n];have X:=o.todo;simp only [stepG.apply,Sem.runT_eq,i,if_true,GStep.bare_after,GStep.bare_go,List.cons_append];generalize c.todo=td at X;generalize f.todo=fd at X;cases X with
   |nil=>rfl
   |cons a _=>cases a<;>rfl
   |rest=>
    generalize hq:U.R=r;cases r with
    |nil=>rfl
    |cons x k=>cases x<;>first|rfl|exact absurd hq (U.hR _ _ _ _ _)
  ·cases b
 |round l args h'=>
  obtain ⟨rfl,lb,H,hb,z,i⟩:=J;simp only [BS] at b;split at b
  ·rename_i g' W;cases b;obtain ⟨fn,tm,assign,body,K,T⟩:=NT (E:=E) F hb W z;refine ⟨ρ,_,c::ccs,w,step_lone_go ?_,⟨T,.cons o u,F⟩,Ext.refl _ _ _⟩;rw [n];simp [stepG.apply,i,K]
  ·cases b
 |defer d h'=>
  obtain ⟨rfl,Y,Z,i⟩:=J;simp only [BS] at b;split at b
  ·cases b
  ·split at b
   ·rename_i Q p;cases b;have m:=BJ o p (VR.undef ρ);refine ⟨ρ,{c with defers:=Y::c.defers}.finish undef,ccs,w,step_lone_go ?_,⟨?_,u,F⟩,Ext.refl _ _ _⟩
    ·rw [n];simp [stepG.apply,i]
    ·have e:({c with defers:=Y::c.defers}:Frame).finish undef={c.finish undef with defers:=Y::(c.finish undef).defers}:=by
      unfold Frame.finish;simp only;split<;>rfl
     rw [e];exact ⟨m.fn,m.tm,m.todo,⟨Z,m.defers⟩,m.mode,m.kind,m.round⟩
   ·cases b
 |recover h'=>
  obtain ⟨rfl,i⟩:=J;simp only [BS] at b;split at b
  ·rename_i a rest C I;have hk:c.kind=.deferred:=o.kind.trans I
   have L:c.roundOf=none:=by
    have:=o.round;rw [C] at this;cases hc:c.roundOf with
    |none=>rfl
    |some l=>rw [hc] at this;exact this.elim
   cases u with
   |cons z A=>
    rename_i M q;have j:=z.mode;split at b
    ·rename_i v t aa;split at b
     ·rename_i Q p;cases b;rw [aa] at j;generalize ab:M.mode=cm at j;cases j with
      |panic _ ac B=>
       cases ac with
       |nil=>exact B.elim
       |cons e D=>
        obtain ⟨O,N,h3,h4⟩:=B;obtain ⟨ev,er,eg⟩:=e;simp only at O N h3;subst N;subst h3;refine ⟨ρ,c.finish ev,{M with mode:=.panicking ({v:=ev,recovered:=true}::D)}::q,w,step_lone_go ?_,⟨BJ o p O,.cons ⟨z.fn,z.tm,z.todo,z.defers,.panic _ _ ⟨O,rfl,rfl,h4⟩,z.kind,z.round⟩ A,F⟩,Ext.refl _ _ _⟩
        rw [n];simp [stepG.apply,i,L,tryRecover,hk,ab]
     ·cases b
    ·rename_i ad;split at b
     ·rename_i Q p;cases b;refine ⟨ρ,c.finish .nilIface,M::q,w,step_lone_go ?_,⟨BJ o p .nilIface,.cons z A,F⟩,Ext.refl _ _ _⟩;rw [n]
      have:tryRecover c (M::(q++base))=none:=by
       have af:∀v t,M.mode≠.panicking ({v,recovered:=false,goexit:=false}::t):=by
        intro v t he;rw [he] at j;generalize ae:a.mode=am at j;cases j with
        |panic ch _ B=>
         cases ch with
         |nil=>exact B.elim
         |cons x r=>
          obtain ⟨xv,xb⟩:=x;obtain ⟨O,N,h3,h4⟩:=B;simp only at N;subst N;exact ad _ _ ae
       simp only [tryRecover,hk]
      simp [stepG.apply,i,L,this]
     ·cases b
  ·cases b
 |panic v h'=>
  obtain ⟨rfl,S,hv,i⟩:=J;simp only [BS] at b;split at b
  ·cases b;refine ⟨ρ,{c with mode:=.panicking [{v:=S,recovered:=false}]},ccs,w,step_lone_go ?_,⟨⟨o.fn,o.tm,o.todo,o.defers,.panic _ _ ⟨hv,rfl,rfl,trivial⟩,o.kind,o.round⟩,u,F⟩,Ext.refl _ _ _⟩
   rw [n];simp [stepG.apply,i,Frame.raise,hm]
  ·cases b
 |bad y=>cases b
end
end Go.AE
namespace Go.AE
variable [Gl:AJ]
variable [U:Unk]
theorem Mu {d:Ren} {id:Nat} {k:List AI} {a:List Item} (h:IL d k a):(∀r,KA id k=some r→∃e,exitTo id a=some e∧IL d r e)∧(KA id k=none→IS k=false→exitTo id a=none):=by
 induction h with
 |nil=>exact ⟨(fun r h=>by cases h),fun _ _=>rfl⟩
 |rest=>exact ⟨(fun r h=>by cases h),(fun _ h=>by cases h)⟩
 |cons h g ih=>
  cases h with
  |inBlock i=>
   simp only [KA,exitTo];cases f:Nat.beq i id with
   |true=>
    have:=Ay f;subst this;exact ⟨fun r b=>⟨_,if_pos (by simp),by cases b;exact g⟩,(fun b _=>by cases b)⟩
   |false=>
    have c:(i==id)=false:=by simpa using WA f
    rw [c];exact ih
  |_=>exact ih
theorem Mv {d:Ren} {l:Nat} {k:List AI} {a:List Item} (h:IL d k a):(∀r,N2 l k=some r→∃e,gotoIn l a=some e∧IL d r e)∧(N2 l k=none→IS k=false→gotoIn l a=none):=by
 induction h with
 |nil=>exact ⟨(fun r h=>by cases h),fun _ _=>rfl⟩
 |rest=>exact ⟨(fun r h=>by cases h),(fun _ h=>by cases h)⟩
 |cons h f ih=>
  cases h with
  |inScope b=>
   simp only [N2,gotoIn];cases g:findLabel b l with
   |some rest=>exact ⟨fun r c=>⟨_,rfl,by cases c;exact .cons (.code _) (.cons (.inScope _) f)⟩,(fun c _=>by cases c)⟩
   |none=>exact ih
  |_=>exact ih
theorem CL.calm {J:Ren}:∀{l:List (AV×Bool)} {I:List PanicEntry},CL J l I→∀y∈I,y.goexit=false
 |[],[],_,y,t=>by cases t
 |_::_,e::r,⟨h1,h2,h3,h4⟩,y,t=>by
  rcases hP.1 t with rfl|t
  ·exact h3
  ·exact CL.calm h4 y t
theorem RM:∀(l:List PanicEntry),(∀y∈l,y.goexit=false)→l.dropWhile (!·.goexit)=[]
 |[],_=>rfl
 |y::r,h=>by
  rw [List.dropWhile_cons_of_pos (by simp [h y (by simp)])]
  exact RM r fun z a=>h z (by simp [a])
section
variable {E:Env} (hE:OK E) {ρ:Ren} {h:Aa} {w w0:World} {fr0 c:Frame} {f:AF} {cs:List AF} {ccs base:List Frame} {s':AS}
theorem H6 {v:AV} {J:Value} (p:(stepG E.P true {frame:=fr0,callers:=ccs++base,status:=.running,dying:=none} w0).bare=(doReturn E.P true c (ccs++base) none J w).bare)
  (t:HR ρ h.blk.get w) (u:c.kind=f.kind) (z:FrL ρ cs ccs) (hv:VR ρ v J) (l:CI f cs v h=.next s'):AZ E.P base ρ h fr0 ccs w0 w s':=by
 unfold CI at l;cases z with
 |nil=>
  simp only at l;split at l<;>cases l
 |cons n i=>
  rename_i a A rest j;simp only at l;split at l
  ·rename_i d;split at l
   ·rename_i Q B;cases l;refine ⟨ρ,_,j,w,step_lone_go ?_,⟨BJ n B hv,i,t⟩,Ext.refl _ _ _⟩;rw [p];simp [doReturn,u,d]
   ·cases l
  ·rename_i d;have b:=n.mode;split at l
   ·rename_i x k C;cases l;rw [C] at b;generalize D:A.mode=R at b;cases b with
    |panic _ F m=>
     cases F with
     |nil=>exact m.elim
     |cons e o=>
      have q:=m.calm;obtain ⟨K,s,G,L⟩:=m;obtain ⟨S,T,V⟩:=e;simp only at K s G;subst s;subst G;refine ⟨ρ,{A with mode:=.returning},j,w,step_lone_go ?_,⟨⟨n.fn,n.tm,n.todo,n.defers,.ret,n.kind,n.round⟩,i,t⟩,Ext.refl _ _ _⟩
      rw [p];simp [doReturn,u,d,D,RM o fun y M=>q y (by simp [M])]
   ·rename_i H;cases l;refine ⟨ρ,_,j,w,step_lone_go ?_,⟨n,i,t⟩,Ext.refl _ _ _⟩;rw [p]
    have N:∀x g k,A.mode≠.panicking ({v:=x,recovered:=true,goexit:=g}::k):=by
     intro x g k O;rw [O] at b;generalize I:a.mode=W at b;cases b with
     |panic ch _ m=>
      cases ch with
      |nil=>exact m.elim
      |cons x r=>
       obtain ⟨X,Y⟩:=x;obtain ⟨K,s,G,L⟩:=m;simp only at s;subst s;exact H _ _ I
    simp only [List.cons_append,doReturn,u,d,GStep.bare_go]
  ·cases l
include hE
theorem G8 (k:HR ρ h.blk.get w) (i:FrR ρ f c):∀{q:List ResultVar} {l:List AV},BI E f h q=some l→
  ∃e:List Value,VL ρ l e∧(q.mapM fun|.tmp t=>pure (c.tmps.getD t undef)|.cell a t=>do loadVar t (←asAddr (c.tmps.getD a undef)):Sem (List Value)).run E.P w=.ok e w
 |[],l,b=>by
  simp only [BI,C2] at b;subst b;exact ⟨[],VL.nil ρ,by simp⟩
 |.tmp t::r,l,b=>by
  simp only [BI] at b;cases d:BI E f h r with
  |none=>rw [d] at b;cases b
  |some z=>
   rw [d] at b;simp only [C2] at b;subst b;obtain ⟨e,m,n⟩:=G8 k i d;refine ⟨c.tmps.getD t undef::e,VL.cons ?_ m,?_⟩
   ·cases g:f.tmps.get t with
    |none=>exact .top _
    |some a=>exact i.tm.get t a g
   ·simp only [List.mapM_cons,LE,L2,E1,n]
 |.cell a t::r,l,b=>by
  simp only [BI] at b;cases g:f.tmps.get a with
  |none=>rw [g] at b;cases b
  |some p=>
   rw [g] at b;simp only at b;cases j:O0 E t p h with
   |none=>rw [j] at b;cases b
   |some v=>
    cases d:BI E f h r with
    |none=>rw [j,d] at b;cases b
    |some z=>
     rw [j,d] at b;simp only [C2] at b;subst b;obtain ⟨e,m,n⟩:=G8 k i d;have s:=i.tm.get a p g;obtain ⟨u,p1,p2⟩:=Sg hE k s j;refine ⟨u::e,VL.cons p2 m,?_⟩
     have:(do loadVar t (←asAddr (c.tmps.getD a undef)):Sem Value).run E.P w=.ok u w:=by
      generalize c.tmps.getD a undef=x at p1 s;cases x with
      |pointer o=>cases o with
       |none=>simp [Instr.loadAt,Instr.sureAddr,stuck] at p1
       |some y=>simpa [Instr.loadAt,Instr.sureAddr,asAddr] using p1
      |_=>simp [Instr.loadAt,Instr.sureAddr,stuck] at p1
     simp only [List.mapM_cons,LE,L2] at this ⊢;rw [this];simp only [E1,n]
theorem FZ (m:HR ρ h.blk.get w) (n:FrR ρ f c) {fn:Func} {l:List AV} (o:BI E f h fn.results.toList=some l) :
  ∃e,(results fn c.tmps).run E.P w=.ok e w∧(∀a,l=[a]→VR ρ a e)∧((∀a,l≠[a])→VR ρ (.tuple l) e):=by
 obtain ⟨b,d,p⟩:=G8 hE m n o;unfold results;rw [Array.mapM_eq_mapM_toList];simp only [LE,Sem.run_map,L2];refine ⟨if h:b.toArray.size=1 then b.toArray[0] else .tuple b.toArray,?_,?_,?_⟩
 ·have key:∀R:Result (List Value),R=.ok b w→((R.andThen fun a g=>Result.ok a.toArray g).andThen fun a g=>Result.ok (if h:a.size=1 then a[0] else Value.tuple a) g) =
    Result.ok (if h:b.toArray.size=1 then b.toArray[0] else Value.tuple b.toArray) w:=by rintro _ rfl;rfl
  refine key _ ?_;rw [←p]
  congr 2
 ·rintro a rfl
  obtain ⟨v,r,rfl,q,s⟩:=d.cons_inv;cases s.nil_inv;simpa using q
 ·intro i
  have:b.toArray.size≠1:=by
   intro j;have k:=d.1;simp only [List.size_toArray] at j;rw [j] at k;obtain ⟨a,rfl⟩:=List.length_eq_one_iff.1 k;exact i a rfl
  rw [dif_neg this];exact .tuple _ _ d.1 d.2
end
end Go.AE
namespace Go.AE
variable [Gl:AJ]
variable [U:Unk]
theorem AZ.pre {P:Program} {base:List Frame} {ρ σ:Ren} {h h1:Aa} {l:Frame} {r:List Frame} {w0 w w1:World} {I:AS} (e:Ext ρ σ h h1 w w1) (st:AZ P base σ h1 l r w0 w1 I) (hf:AW ρ h.nx I.h.nx) :
  AZ P base ρ h l r w0 w I:=by
 obtain ⟨τ,J,t,w',q1,q2,q3⟩:=st;exact ⟨τ,J,t,w',q1,q2,e.trans q3 hf⟩
section
variable {P:Program} {fr:Frame} {k:List Item} {cs:List Frame} {w:World}
theorem L7 {l:Nat} {a:Option Code} {c:World} {v:Value} (d:fr.mode=.run) (e:fr.roundOf=some l)
  (b:(fr.todo=[]∧a=none)∨(∃k,fr.todo=.code .ret::k∧a=some .ret)∨(∃id k,fr.todo=.code (.exit id)::k∧exitTo id k=none∧a=some (.exit id))∨(∃l k,fr.todo=.code (.goto l)::k∧gotoIn l k=none∧a=some (.goto l)))
  (f:(Instr.endRound l a).run P w=.ok v c):(stepG P true {frame:=fr,callers:=cs,status:=.running,dying:=none} w).bare=(doReturn P true fr cs none v c).bare:=by
 rcases b with ⟨b,rfl⟩|⟨k,b,rfl⟩|⟨id,k,b,g,rfl⟩|⟨h,k,b,g,rfl⟩<;>
 (cases fr;simp only at d b e;subst d;subst b;subst e;simp [stepG,stepG.exec,Sem.runT_eq, *])
theorem JD {v:Value} {fn:Func} (a:fr.mode=.returning) (b:fr.defers=[]) (c:P.funcs[fr.fn]?=some fn) (d:(results fn fr.tmps).run P w=.ok v w) :
  (stepG P true {frame:=fr,callers:=cs,status:=.running,dying:=none} w).bare=(doReturn P true fr cs none v w).bare:=by
 simp [stepG,unwind,a,b,c,Sem.runT_eq,d]
theorem mb {c:Frame} {e:List PanicEntry} (f:fr.mode=.panicking e) (g:fr.defers=[]) (h:∀d b r a k,fr.todo≠.call d b r a::k):step P (lone fr (c::cs) w)=.next (lone (c.raise e) cs w):=by
 have i:fr.catches P=false:=by
  unfold Frame.catches;split
  ·rename_i l j;exact absurd j (h _ _ _ _ _)
  ·rfl
 exact step_lone_go (by simp [stepG,unwind,f,g,i])
end
section
variable {E:Env} (hE:OK E) {ρ:Ren} {h:Aa} {w:World} {c:Frame} {f:AF} {cs:List AF} {ccs base:List Frame} {s':AS}
theorem Kx (i:HR ρ h.blk.get w) {l:Nat} {b:Cr} {st:LoopState} {pending:Option Code} {fn:FuncId} {nt:Nat} {tmps:T AV} {params:List Tmp} {assign body:Code} {d:Nat} (j:ρ l=some b)
  (k:h.blk.get l=some (.loop st pending fn nt tmps params assign body d)) (a:Option Code) :
  ∃g,(Instr.endRound b.cb a).run E.P w=.ok (.bool a.isNone) g∧HR ρ (h.put l (.loop (if a.isNone then .ready else .done) a fn nt tmps params assign body d)).blk.get g∧
   Ext ρ ρ h (h.put l (.loop (if a.isNone then .ready else .done) a fn nt tmps params assign body d)) w g:=by
 obtain ⟨tm,m,o,p,n⟩:=i.blk l b _ j k;have q:=A7 E.P n (fun _ _ _ e=>by cases e)
 obtain ⟨r,s⟩:=i.setObj j (by rw [k];exact fun e=>by cases e) (.loop (if a.isNone then .ready else .done) a fn nt tmps params assign body d)
  (.loop {state:=if a.isNone then .ready else .done,pending:=a,fn:=fn,tmps:=tm,params:=params.toArray,assign:=assign,body:=body,defers:=m.cb}) ⟨tm,m,o,p,rfl⟩
 refine ⟨_,?_,r,s⟩;have t:=fun o'=>Bf (o':=o') E.P n (fun _ _ _ e=>by cases e)
 simp only [Instr.endRound,Instr.getLoop,LE,q,E1,L2,t]
theorem RR.none_inv {ρ:Ren} {x:Option Nat} (h:RR ρ none x):x=none:=by
 cases x with
 |none=>rfl
 |some l=>exact h.elim
theorem RR.some_inv {ρ:Ren} {l:Nat} {x:Option Nat} (h:RR ρ (some l) x):∃b,ρ l=some b∧x=some b.cb:=by
 cases x with
 |none=>exact h.elim
 |some c=>obtain ⟨b,r,rfl⟩:=h;exact ⟨b,r,rfl⟩
theorem Hn (s:HR ρ h.blk.get w) (i:FrR ρ f c) (o:FrL ρ cs ccs) (t:c.mode=.run) {e:Option Code}
  (j:(c.todo=[]∧e=none)∨(∃k,c.todo=.code .ret::k∧e=some .ret)∨(∃id k,c.todo=.code (.exit id)::k∧exitTo id k=none∧e=some (.exit id))∨(∃l k,c.todo=.code (.goto l)::k∧gotoIn l k=none∧e=some (.goto l)))
  (g:D0 f cs h e=.next s') (m:AW ρ h.nx s'.h.nx):AZ E.P base ρ h c ccs w w s':=by
 have a:=i.round;unfold D0 at g;split at g
 ·rename_i p;rw [p] at a;have n:=a.none_inv
  have q:c.todo=[]∨∃k,c.todo=.code .ret::k:=by
   rcases j with ⟨j,_⟩|⟨k,j,_⟩|⟨id,k,j,u,rfl⟩|⟨C,k,j,u,rfl⟩
   ·exact .inl j
   ·exact .inr ⟨k,j⟩
   ·cases g
   ·cases g
  have v:s'={fr:={f with mode:=.ret},cs,h}:=by
   split at g
   ·cases g;rfl
   ·cases g;rfl
   ·cases g
  subst v;exact ⟨ρ,_,ccs,w,jk t q n,⟨⟨i.fn,i.tm,i.todo,i.defers,.ret,i.kind,i.round⟩,o,s⟩,Ext.refl _ _ _⟩
 ·rename_i l r;rw [r] at a;obtain ⟨b,x,n⟩:=a.some_inv;split at g
  ·rename_i st pending fn nt tmps params assign body d y;obtain ⟨D,z,A,B⟩:=Kx (E:=E) s x y e;exact AZ.pre B (H6 (L7 t n j z) A i.kind o (.bool _) g) m
  ·cases g
include hE
theorem SL (u:HR ρ h.blk.get w) (o:FrR ρ f c) (q:FrL ρ cs ccs) (W:c.mode≠.run) (i:Eh E f cs h=.next s'):AZ E.P base ρ h c ccs w w s':=by
 have m:=o.defers;unfold Eh at i;split at i
 ·rename_i d ds B;rw [B] at m;cases n:c.defers with
  |nil=>rw [n] at m;exact m.elim
  |cons d' H=>
   rw [n] at m;obtain ⟨s,I⟩:=m;unfold DR at s;split at i
   ·rename_i t;rw [t] at s;obtain ⟨b,X,rfl⟩:=s;split at i
    ·rename_i l Y;cases i;obtain ⟨l',q1,Z⟩:=u.blk _ b _ X Y;obtain ⟨p1,p2⟩:=u.setObj X (by rw [Y];exact fun e=>by cases e) (.deferred none) (.deferred none) rfl
     refine ⟨ρ,_,ccs,_,XX W n ?_,⟨⟨o.fn,o.tm,o.todo,q1.append I,o.mode,o.kind,o.round⟩,q,p1⟩,p2⟩;have N:=A7 E.P Z (fun _ _ _ e=>by cases e)
     have hs:=Bf (o':=.deferred none) E.P Z (fun _ _ _ e=>by cases e)
     simp only [Instr.takeDeferred,LE,N,E1,L2,hs]
    ·cases i
   ·rename_i fn t;rw [t] at s;obtain ⟨aa,c',a',h1,h2,h3,rfl⟩:=s;have hi:=Ep hE u h1 h2 h3;split at i
    ·rename_i g args h' O;rw [O] at hi;obtain ⟨rfl,Q,y,J⟩:=hi;split at i
     ·rename_i gf N;cases i;exact ⟨ρ,_,{c with defers:=H}::ccs,w,bl W n (fun b e=>by cases e) (fun e=>by cases e) J,⟨B7 hE N y,.cons ⟨o.fn,o.tm,o.todo,I,o.mode,o.kind,o.round⟩ q,u⟩,Ext.refl _ _ _⟩
     ·cases i
    ·cases i
 ·rename_i B;rw [B] at m
  have n:c.defers=[]:=by
   cases n:c.defers with
   |nil=>rfl
   |cons d' H=>rw [n] at m;exact m.elim
  have j:=o.mode;split at i
  ·cases i
  ·rename_i R C;rw [C] at j;generalize z:c.mode=cm at j;cases j with
   |panic _ K S=>
    cases q with
    |nil=>
     simp only at i;split at i
     ·split at i<;>cases i
     ·cases i
    |cons y D=>
     rename_i a M rest F;simp only at i;split at i
     ·rename_i T;cases i;have p:=y.mode;rw [T] at p
      have L:M.mode=.run:=by
       generalize M.mode=x at p;cases p;rfl
      refine ⟨ρ,_,F,w,mb z n (fun d b r a k=>o.todo.not_call d b r a k),⟨?_,D,u⟩,Ext.refl _ _ _⟩
      have e:M.raise K={M with mode:=.panicking K}:=by simp [Frame.raise,L]
      rw [e];exact ⟨y.fn,y.tm,y.todo,y.defers,.panic _ _ S,y.kind,y.round⟩
     ·cases i
  ·rename_i C;rw [C] at j
   have z:c.mode=.returning:=by
    generalize c.mode=x at j;cases j;rfl
   split at i
   ·rename_i fn t;have A:E.P.funcs[c.fn]?=some fn:=by rw [o.fn];exact hE.fn _ _ t
    split at i
    ·rename_i v G;obtain ⟨v',p1,p2,p3⟩:=FZ hE u o G;exact H6 (JD z n A p1) u o.kind q (p2 _ rfl) i
    ·rename_i l V G;obtain ⟨v',p1,p2,p3⟩:=FZ hE u o G;exact H6 (JD z n A p1) u o.kind q (p3 fun a e=>V a (by rw [e])) i
    ·cases i
   ·cases i
end
end Go.AE
namespace Go.AE
variable [Gl:AJ]
variable [U:Unk]
section
variable {E:Env} (hE:OK E) {ρ:Ren} {h:Aa} {w:World} {c:Frame} {f:AF} {cs:List AF} {ccs base:List Frame} {s s':AS}
theorem AZ.to {P:Program} (l:SR ρ s c ccs w) {k:List AI} {t:List Item} (I:IL ρ k t) (r:step P (lone c (ccs++base) w)=.next (lone {c with todo:=t} (ccs++base) w)) :
  AZ P base ρ s.h c ccs w w {s with fr:={s.fr with todo:=k}}:=
 ⟨ρ,_,ccs,w,r,⟨⟨l.fr.fn,l.fr.tm,I,l.fr.defers,l.fr.mode,l.fr.kind,l.fr.round⟩,l.cs,l.h⟩,Ext.refl _ _ _⟩
theorem V3 (ops:Array Oper):ops.toList.map some=(List.range ops.size).map fun i=>ops[i]?:=by
 apply List.ext_getElem (by simp)
 intro i a b;simp at a;simp [a]
theorem DH (tmps:T AV) (c:Call) (h:Aa):(∃d,Hd tmps c h=.defer d h)∨∃y,Hd tmps c h=.bad y:=by
 unfold Hd;split
 ·split
  ·exact .inl ⟨_,rfl⟩
  ·exact .inr ⟨_,rfl⟩
 ·exact .inr ⟨_,rfl⟩
theorem HG.not_run {ρ:Ren} {a:HG} {m:FrameMode} (h:MR ρ a m) (l:a≠.run):m≠.run:=by
 cases h with
 |run=>exact absurd rfl l
 |ret=>exact fun e=>by cases e
 |panic=>exact fun e=>by cases e
include hE
theorem wv (a:SR ρ s c ccs w) (q:c.mode=.run) (A:s.fr.mode=.run) {all:Array Oper} {o:Oper} {rest:List Oper} {k:List AI} (B:s.fr.todo=.ops all (o::rest)::k)
  (g:(match BL all o s.fr.tmps with
   |some true=>BS E s.fr s.cs (aop E s.fr.tmps s.h o.op)
   |some false=>BS E s.fr s.cs (.val .undef s.h)
   |none=>.bad "wanted")=.next s') (m:AW ρ s.h.nx s'.h.nx):AZ E.P base ρ s.h c ccs w w s':=by
 have j:=a.fr.todo;rw [B] at j;obtain ⟨i,C,F,e,x,z,G⟩:=j.ops_inv;split at g
 ·rename_i r;have n:=Ce a.fr.tm r
  have D:c.roundOf=none∨∀cl,o.op≠.defer cl:=by
   cases p:o.op with
   |defer cl=>
    left;have b:=a.fr.round;rcases DH s.fr.tmps cl s.h with ⟨d,t⟩|⟨y,t⟩
    ·have l:aop E s.fr.tmps s.h o.op=.defer d s.h:=by rw [p];simpa [aop] using t
     rw [l] at g;simp only [BS] at g;split at g
     ·cases g
     ·rename_i u;rw [u] at b;exact b.none_inv
    ·have l:aop E s.fr.tmps s.h o.op=.bad y:=by rw [p];simpa [aop] using t
     rw [l] at g;cases g
   |_=>exact .inr fun cl e=>by cases e
  exact Oo hE (by rw [FI q e x n D]) (Ie hE a.h a.fr.evR o) a.h a.fr a.cs q g m
 ·rename_i r;have n:=Ce a.fr.tm r;simp only [BS] at g;split at g
  ·rename_i H v;cases g;exact ⟨ρ,_,ccs,w,OQ q e x n,⟨BJ a.fr v (VR.undef ρ),a.cs,a.h⟩,Ext.refl _ _ _⟩
  ·cases g
 ·cases g
omit hE in
theorem FL.congr {s t:Sem Next} {r:Res} (e:s.run E.P w=t.run E.P w) (d:FL E ρ h w t r):FL E ρ h w s r:=by
 cases r with
 |bad y=>trivial
 |_=>simpa only [FL,e] using d
def Md (a:Option Nat):Sem (Nat×List Deferred):=match a with
  |some l=>do pure ((←Instr.getLoop l).defers,[])
  |none=>do
   let r ←newObj (.deferred (some []))
   pure (r,[{target:=.collected r,args:=#[]}])
omit hE in
theorem SD (hr:HR ρ h.blk.get w) (hf:FrR ρ f c) {d:Nat} {h1:Aa} {mark:List AD} (hc:UP f h=some (d,h1,mark)) (hfree:AW ρ h.nx h1.nx) :
  ∃σ w1 bd mark',(Md c.roundOf).run E.P w=.ok (bd.cb,mark') w1∧σ d=some bd∧DL σ mark mark'∧HR σ h1.blk.get w1∧Ext ρ σ h h1 w w1:=by
 have hround:=hf.round;unfold UP at hc;split at hc
 ·rename_i l hrs;rw [hrs] at hround;obtain ⟨b,hb,hro⟩:=hround.some_inv;split at hc
  ·rename_i hl;simp only [C2,hS] at hc;obtain ⟨rfl,rfl,rfl⟩:=hc;obtain ⟨tm,bd,q1,q2,q3⟩:=hr.blk l b _ hb hl;have hg:=A7 E.P q3 (fun _ _ _ e=>by cases e)
   refine ⟨ρ,w,bd,[],?_,q1,trivial,hr,Ext.refl _ _ _⟩;simp only [hro,Md,Instr.getLoop,LE,hg,E1,L2]
  ·cases hc
 ·rename_i hrn;rw [hrn] at hround;have hro:=hround.none_inv;simp only [C2,hS] at hc;obtain ⟨rfl,rfl,rfl⟩:=hc;obtain ⟨q1,q2⟩:=hr.new (hfree h.nx (L1 _) (by simp [Aa.new])) (.deferred (some [])) (.deferred (some [])) 0 ⟨[],trivial,rfl⟩ {w with heap:=w.heap.push (.deferred (some []))} rfl rfl rfl rfl
  have hu:(ρ.upd h.nx ⟨w.heap.size,0,0⟩) h.nx=some ⟨w.heap.size,0,0⟩:=by simp [Ren.upd]
  refine ⟨_,_,⟨w.heap.size,0,0⟩,[{target:=.collected w.heap.size,args:=#[]}],?_,hu,⟨⟨_,hu,rfl⟩,trivial⟩,q1,q2⟩;simp only [hro,Md,LE,zB,E1,L2]
theorem Zl (q:SR ρ s c ccs w) (L:c.mode=.run) {fo:Operand} {params:Array Tmp} {assign body:Code} {k:List AI} {D:List Item} (N:IL ρ k D) (O:c.todo=.code (.rangeFunc fo params assign body)::D)
  (p:Hv E s fo params.toList assign body k=.next s') (hfree:AW ρ s.h.nx s'.h.nx):AZ E.P base ρ s.h c ccs w w s':=by
 unfold Hv at p;split at p
 ·rename_i d h1 mark u;split at p
  ·rename_i fn first captured F;split at p
   ·rename_i g args Q G;split at p
    ·rename_i gf hg;cases p;have z:(h1.new (.loop .ready none s.fr.fn s.fr.nt s.fr.tmps params.toList assign body d)).nx=h1.nx+1:=rfl;obtain ⟨σ,w1,bd,mark',q1,q2,q3,R,A⟩:=SD (E:=E) q.h q.fr u (fun b h1 h2=>hfree b h1 (by simp only [z];omega))
     have v:=q.fr.mono A.le;have n:σ h1.nx=none:=(A.free hfree) h1.nx (L1 _) (by simp only [z];omega)
     have o:=Ren.le_upd n ⟨w1.heap.size,0,0⟩;obtain ⟨p1,p2⟩:=R.new n (.loop .ready none s.fr.fn s.fr.nt s.fr.tmps params.toList assign body d)
      (.loop {state:=.ready,pending:=none,fn:=c.fn,tmps:=c.tmps,params:=params,assign:=assign,body:=body,defers:=bd.cb}) 0
      ⟨c.tmps,bd,o.m _ _ q2,v.tm.mono o,by rw [v.fn]⟩
      {w1 with heap:=w1.heap.push (.loop {state:=.ready,pending:=none,fn:=c.fn,tmps:=c.tmps,params:=params,assign:=assign,body:=body,defers:=bd.cb})} rfl rfl rfl rfl
     have hu:(σ.upd h1.nx ⟨w1.heap.size,0,0⟩) h1.nx=some ⟨w1.heap.size,0,0⟩:=by simp [Ren.upd]
     have B:(Instr.enterLoop c.fn c.tmps params assign body c.roundOf).run E.P w=.ok (w1.heap.size,mark') {w1 with heap:=w1.heap.push (.loop {state:=.ready,pending:=none,fn:=c.fn,tmps:=c.tmps,params:=params,assign:=assign,body:=body,defers:=bd.cb})}:=by
      cases hro:c.roundOf with
      |some l=>
       rw [hro] at q1;simp only [Md,LE,L2] at q1;simp only [Instr.enterLoop,LE,L2,zB,E1];cases M:(Instr.getLoop l).run E.P w with
       |ok a w2=>
        rw [M] at q1;simp only [E1,Result.ok.injEq,hS] at q1 ⊢;obtain ⟨⟨H,I⟩,J⟩:=q1;rw [H,I,J];exact ⟨⟨rfl,rfl⟩,rfl⟩
       |halt x w2=>rw [M] at q1;cases q1
      |none=>
       rw [hro] at q1;simp only [Md,LE,L2,zB,E1,Result.ok.injEq,hS] at q1;obtain ⟨⟨H,I⟩,J⟩:=q1;simp only [Instr.enterLoop,LE,L2,zB,E1];rw [←H,←I,←J]
     refine AZ.pre (A.trans p2 hfree) ?_ hfree;have i:=v.mono o;have hv:=i.evR fo;rw [F] at hv;generalize K:c.eval fo=cv at hv;cases hv with
     |func _ S _ _ T c' V W X Y Z=>
      have ha:VL (σ.upd h1.nx ⟨w1.heap.size,0,0⟩) (first++[.func (.yield h1.nx) [] []]) (T++[.func (.yield w1.heap.size) #[] #[]]):=
       VL.append ⟨W,X⟩ (VL.cons (.func _ _ [] [] [] [] ⟨_,hu,rfl⟩ rfl (by simp) rfl (by simp)) (VL.nil _))
      have j:=Ep hE p1 V ⟨Y,Z⟩ ha;rw [G] at j;have he:Q=_:=j.1;subst he
      refine Oo hE (c:={c with todo:=.inRangeFunc w1.heap.size::D,defers:=mark'++c.defers})
       (f:={s.fr with todo:=.inRange h1.nx::k,defers:=mark++s.fr.defers}) (cs:=s.cs) (KX L O B) (j.congr ?_) p1
       ⟨i.fn,i.tm,.cons (.inRange _ _ hu) ((N.mono A.le).mono o),(q3.mono o).append i.defers,i.mode,i.kind,i.round⟩ ((q.cs.mono A.le).mono o) L ?_ (fun b l1 l2=>absurd (Nat.lt_of_le_of_lt l1 l2) (Nat.lt_irrefl _))
      ·have C:c.eval (.const (.func (.yield w1.heap.size) #[] #[]))=.func (.yield w1.heap.size) #[] #[]:=rfl;simp [resolve,K,C,Deferred.ofValue]
      ·simp only [BS,hg]
    ·cases p
   ·cases p
  ·cases p
 ·cases p
theorem I2 (g:SR ρ s c ccs w) (p:A8 E s=.next s') (hfree:AW ρ s.h.nx s'.h.nx):AZ E.P base ρ s.h c ccs w w s':=by
 have z:=g.fr.mode;have m:=g.fr.todo;unfold A8 at p;simp only at p;split at p
 ·rename_i D;rw [D] at z
  have v:c.mode=.run:=by
   generalize c.mode=x at z;cases z;rfl
  split at p
  ·rename_i B;rw [B] at m;generalize n:c.todo=td at m;cases m;exact Hn g.h g.fr g.cs v (.inl ⟨n,rfl⟩) p hfree
  ·rename_i id k B;rw [B] at m;generalize n:c.todo=td at m;cases m with|cons a u=>
   cases a;cases p;exact AZ.to g u (Ux v n)
  ·rename_i id k B;rw [B] at m;generalize n:c.todo=td at m;cases m with|cons a u=>
   cases a;cases p;exact AZ.to g u (Uf v n)
  ·rename_i b k B;rw [B] at m;generalize n:c.todo=td at m;cases m with|cons a u=>
   cases a;cases p;exact AZ.to g (.cons (.code _) (.cons (.inLoop _) u)) (VX v n)
  ·rename_i all k B;rw [B] at m;generalize n:c.todo=td at m;cases m with|cons a u=>
   cases a with|ops _ _ I J=>
   cases I with
   |cons i I=>cases J
   |nil=>
    cases p;exact AZ.to g u (JA v n)
  ·rename_i all o rest k B;exact wv hE g v D B p hfree
  ·cases p
  ·cases p
  ·cases p
  ·rename_i l k B;rw [B] at m;generalize n:c.todo=td at m;cases m with|cons a u=>
   cases a with|endRange _ b hb=>
   split at p
   ·rename_i st pending fn nt tmps params assign body d hl;split at p
    ·cases p
    ·rename_i M;cases p;obtain ⟨tm,bd,h1,G,K⟩:=g.h.blk l b _ hb hl;have hg:=A7 E.P K (fun _ _ _ e=>by cases e)
     obtain ⟨q1,q2⟩:=g.h.setObj hb (by rw [hl];exact fun e=>by cases e) (.loop .exhausted pending fn nt tmps params assign body d)
      (.loop {state:=.exhausted,pending,fn:=fn,tmps:=tm,params:=params.toArray,assign:=assign,body:=body,defers:=bd.cb}) ⟨tm,bd,h1,G,rfl⟩
     have N:=fun o'=>Bf (o':=o') E.P K (fun _ _ _ e=>by cases e)
     have O:(st==LoopState.busy)=false:=by
      cases st<;>first|rfl|exact absurd rfl M
     have L:(Instr.endLoop b.cb).run E.P w=.ok pending {w with heap:=w.heap.setIfInBounds b.cb (.loop {state:=.exhausted,pending,fn:=fn,tmps:=tm,params:=params.toArray,assign:=assign,body:=body,defers:=bd.cb})}:=by
      simp only [Instr.endLoop,Instr.getLoop,LE,hg,E1,L2,O,Ts,y0,N]
     refine ⟨ρ,_,ccs,_,TO v n L,⟨⟨g.fr.fn,g.fr.tm,?_,g.fr.defers,g.fr.mode,g.fr.kind,g.fr.round⟩,g.cs,q1⟩,q2⟩;cases pending with
     |none=>exact u
     |some j=>exact .cons (.code _) u
   ·cases p
  ·rename_i k B;rw [B] at m;generalize n:c.todo=td at m;cases m with|cons a u=>
   cases a;have hround:=g.fr.round;split at p
   ·rename_i l hrs;rw [hrs] at hround;obtain ⟨b,hb,hro⟩:=hround.some_inv;split at p
    ·rename_i pending fn nt tmps params assign body d hl;cases p;obtain ⟨tm,bd,h1,G,K⟩:=g.h.blk l b _ hb hl;have hg:=A7 E.P K (fun _ _ _ e=>by cases e)
     obtain ⟨q1,q2⟩:=g.h.setObj hb (by rw [hl];exact fun e=>by cases e) (.loop .busy pending fn nt tmps params assign body d)
      (.loop {state:=.busy,pending,fn:=fn,tmps:=tm,params:=params.toArray,assign:=assign,body:=body,defers:=bd.cb}) ⟨tm,bd,h1,G,rfl⟩
     have N:=fun o'=>Bf (o':=o') E.P K (fun _ _ _ e=>by cases e)
     refine ⟨ρ,_,ccs,_,NO v n hro ?_,⟨⟨g.fr.fn,g.fr.tm,u,g.fr.defers,g.fr.mode,g.fr.kind,g.fr.round⟩,g.cs,q1⟩,q2⟩;simp only [Instr.beginRound,Instr.getLoop,LE,hg,E1,L2,N]
    ·cases p
   ·cases p
  ·rename_i X k B;rw [B] at m;generalize n:c.todo=td at m;cases m with|cons a u=>
   cases a;split at p
   ·exact Hn g.h g.fr g.cs v (.inr (.inl ⟨_,n,rfl⟩)) p hfree
   ·cases p;exact AZ.to g u (aA v n)
   ·cases p;exact AZ.to g u (Xd v n)
   ·cases p;exact AZ.to g (.cons (.code _) (.cons (.code _) u)) (kX v n)
   ·rename_i F x y;have hv:=g.fr.evR F;split at p
    ·rename_i C;rw [C] at hv;generalize A:c.eval F=R at hv;cases hv;cases p;exact AZ.to g (.cons (.code _) u) (Li v n A)
    ·rename_i C;rw [C] at hv;generalize A:c.eval F=R at hv;cases hv;cases p;exact AZ.to g (.cons (.code _) u) (Li v n A)
    ·rename_i pos e C;rw [C] at hv;generalize A:c.eval F=R at hv;cases hv;split at p
     ·rename_i q T;have V:=Aw U.ok T;rw [V] at A;split at p
      ·rename_i Q;rw [Q] at A;cases p;exact AZ.to g (.cons (.code _) u) (Li v n A)
      ·rename_i Q;rw [Q] at A;cases p;exact AZ.to g (.cons (.code _) u) (Li v n A)
     ·cases p
    ·cases p
   ·cases p;exact AZ.to g (.cons (.code _) (.cons (.inBlock _) u)) (Zi v n)
   ·cases p;exact AZ.to g (.cons (.code _) (.cons (.inLoop _) u)) (bW v n)
   ·cases p;exact AZ.to g (.cons (.code _) (.cons (.inScope _) u)) (YP v n)
   ·rename_i id;split at p
    ·rename_i k2 C;cases p;obtain ⟨W,h1,G⟩:=(Mu u).1 _ C;exact AZ.to g G (bI v n h1)
    ·rename_i C;split at p
     ·cases p
     ·rename_i H;exact Hn g.h g.fr g.cs v (.inr (.inr (.inl ⟨_,_,n,(Mu u).2 C H,rfl⟩))) p hfree
   ·rename_i id;split at p
    ·rename_i k2 C;cases p;obtain ⟨W,h1,G⟩:=(Mv u).1 _ C;exact AZ.to g G (bE v n h1)
    ·rename_i C;split at p
     ·cases p
     ·rename_i H;exact Hn g.h g.fr g.cs v (.inr (.inr (.inr ⟨_,_,n,(Mv u).2 C H,rfl⟩))) p hfree
   ·exact Zl hE g v u n p hfree
   ·rename_i id ops S;split at p
    ·cases p;exact AZ.to g (.cons (.ops _ _ _ (V3 _)) u) (We v n)
    ·cases p
   ·cases p
 ·rename_i D;exact SL hE g.h g.fr g.cs (HG.not_run z D) p
end
end Go.AE
namespace Go.AE
variable [Gl:AJ]
variable [U:Unk]
def WF (h:Aa):Prop:=∀b,h.nx≤b→h.blk.get b=none
theorem Ext.wf {ρ l:Ren} {h h':Aa} {w r:World} (e:Ext ρ l h h' w r) (t:WF h):WF h':=by
 intro b hb;have:=e.nx;cases I:h'.blk.get b with
 |none=>rfl
 |some x=>
  rcases e.live b (by rw [I];exact fun e=>by cases e) with J|⟨_,h2⟩
  ·exact absurd (t b (by omega)) J
  ·omega
def BK (P:Program) (m:Machine) (c0:Frame) (base:List Frame) (ok:Bool) (v:Value) (w:World):Prop:=
 match ok with
 |true=>Steps P m (lone (c0.finish v) base w)
 |false=>Steps P m (lone (c0.raise [{v:=v,recovered:=false}]) base w)
theorem BK.head {P:Program} {m l:Machine} {c0:Frame} {base:List Frame} {ok:Bool} {v:Value} {w:World} (h:step P m=.next l) (k:BK P l c0 base ok v w):BK P m c0 base ok v w:=by
 cases ok
 ·exact Steps.head h k
 ·exact Steps.head h k
def FP (E:Env) (a:Ask→Aa→Option (Bool×AV×Aa)):Prop:=
 (∀(f:FuncId) (args:List AV) (b:List Value) (h g:Aa) (ok:Bool) (v:AV) (c:Ren) (w:World),VL c args b→HR c h.blk.get w→WF h→a (.enter f args) h=some (ok,v,g)→AW c h.nx g.nx→
  ∀(c0:Frame) (base:List Frame),∃d i e,BK E.P (lone (Frame.enter E.P f b.toArray .normal) (c0::base) w) c0 base ok i e∧VR d v i∧HR d g.blk.get e∧Ext c d h g w e)∧
 (∀(l:Nat) (args:List AV) (h g:Aa) (ok:Bool) (v:AV) (c:Ren) (w:World),HR c h.blk.get w→WF h→a (.round l args) h=some (ok,v,g)→AW c h.nx g.nx→
  ∃fr,GZ l args h=some fr∧∀(j:Frame),FrR c fr j→∀(c0:Frame) (base:List Frame),∃d i e,BK E.P (lone j (c0::base) w) c0 base ok i e∧VR d v i∧HR d g.blk.get e∧Ext c d h g w e)
def part (h:Aa):Option (List Nat)→Aa
 |some a=>{blk:=Du h a,nx:=h.nx,log:=[]}
 |none=>{h with log:=[]}
theorem DD (h:Aa):∀(l:List Nat) (b:Nat),(Du h l).get b=none∨(b∈l∧(Du h l).get b=h.blk.get b)
 |[],b=>.inl (T.get_nil b)
 |c::r,b=>by
  simp only [Du];cases f:h.blk.get c with
  |none=>
   rcases DD h r b with q|⟨a,d⟩
   ·exact .inl q
   ·exact .inr ⟨by simp [a],d⟩
  |some x=>
   simp only [T.get_set];by_cases e:c=b
   ·subst e;rw [if_pos rfl];exact .inr ⟨by simp,f.symm⟩
   ·rw [if_neg e];rcases DD h r b with q|⟨a,d⟩
    ·exact .inl q
    ·exact .inr ⟨by simp [a],d⟩
theorem Lo {h:Aa} (c:WF h) (fp:Option (List Nat)):WF (part h fp):=by
 intro b d;cases fp with
 |none=>exact c b d
 |some a=>
  rcases DD h a b with q|⟨_,q⟩
  ·exact q
  ·exact q.trans (c b d)
theorem Pj {f:Ren} {a:AV} {v:Value} (h:VR f a v):VR f (Zy a) v:=by
 unfold Zy;split
 ·rename_i b nl;split
  ·rename_i d;have e:=Aw U.ok d;cases h with
   |nmap _ _ base g c=>rw [c] at e;cases e
   |nmap0=>exact .map0
  ·rename_i d;have e:=Aw U.ok d;cases h with
   |nmap _ _ base g c=>exact .map _ base g
   |nmap0 _ _ c=>rw [c] at e;cases e
  ·exact h
 ·exact h
theorem DG (t:T AV):∀(l:List Tmp) (i:Tmp) (x:AV),(A0 t l).get i=some x→i∈l∧∃y,t.get i=some y∧x=Zy y
 |[],i,x,h=>by rw [A0,T.get_nil] at h;cases h
 |c::r,i,x,h=>by
  simp only [A0] at h;cases a:t.get c with
  |none=>
   rw [a] at h;obtain ⟨b,d⟩:=DG t r i x h;exact ⟨by simp [b],d⟩
  |some y=>
   rw [a] at h;simp only [T.get_set] at h;by_cases e:c=i
   ·subst e;rw [if_pos rfl] at h;cases h;exact ⟨by simp,_,a,rfl⟩
   ·rw [if_neg e] at h;obtain ⟨b,d⟩:=DG t r i x h;exact ⟨by simp [b],d⟩
section
variable {E:Env} (hE:OK E) {callF:Ask→Aa→Option (Bool×AV×Aa)} {ρ:Ren} {h:Aa} {w:World} {c:Frame} {cs:List Frame}
include hE
theorem O8 (hF:FP E callF) {all:Array Oper} {o:Oper} {nt:Nat} {t:T AV} {d:Did} {i:Nat} {rest:List Nat} {k:List Item} (m:Dp E callF all o t h=some d) (K:WF h) (J:c.mode=.run)
  (A:c.todo=.inRegion all (i::rest)::k) (L:all[i]?=some o) (O:TR ρ nt t c.tmps) (D:HR ρ (part h d.fp).blk.get w) (p:AW ρ h.nx d.g.nx) :
  ∃F C G,BK E.P (lone c cs w) c cs d.ok C G∧VR F d.v C∧HR F d.g.blk.get G∧Ext ρ F (part h d.fp) d.g w G:=by
 have H:EvR ρ t c.eval:=by
  intro x;have:=Jq O x;cases x<;>exact this
 unfold Dp at m;split at m
 ·cases m
 ·rename_i Q;have z:=Ce O Q;cases m;exact ⟨ρ,undef,w,Steps.one (OQ J A L z),VR.undef ρ,D,Ext.refl _ _ _⟩
 ·rename_i Q;have z:=Ce O Q;split at m
  ·rename_i I
   have q:∀cl,o.op≠.defer cl:=by
    intro cl e;rw [e] at I;cases I
   simp only at m;split at m
   ·rename_i v g j;cases m;have a:=Ie hE (h:=part h (some (XI t h o.op))) D H o;rw [show aop E t (part h (some (XI t h o.op))) o.op=_ from j] at a
    obtain ⟨F,C,G,M,N,R,S⟩:=a p;exact ⟨F,C,G,Steps.one (UD J A L z (.inr q) M),N,R,S⟩
   ·cases m
  ·have s:∀{r:Res},aop E t {h with log:=[]} o.op=r→(∀d g,r≠.defer d g)→(∀y,r≠.bad y)→∀cl,o.op≠.defer cl:=by
    intro r j n1 n2 cl e;rw [e] at j;simp only [aop] at j;rcases DH t cl {h with log:=[]} with ⟨d,V⟩|⟨y,V⟩
    ·exact n1 _ _ (j.symm.trans V)
    ·exact n2 _ (j.symm.trans V)
   split at m
   ·rename_i f args h' j;split at m
    ·rename_i ok v g u;cases m;have a:=Ie hE (h:=part h none) D H o;rw [show aop E t (part h none) o.op=_ from j] at a
     obtain ⟨rfl,B,W,n⟩:=a;have q:=s j (fun _ _ e=>by cases e) (fun _ e=>by cases e)
     obtain ⟨F,C,G,M,N,R,S⟩:=hF.1 f args B (part h none) g ok v ρ w W D (Lo K none) u p c cs;exact ⟨F,C,G,M.head (MJ J A L z (.inr q) n),N,R,S⟩
    ·cases m
   ·rename_i l args h' j;split at m
    ·rename_i ok v g u;cases m;have a:=Ie hE (h:=part h none) D H o;rw [show aop E t (part h none) o.op=_ from j] at a
     obtain ⟨rfl,b,B,hb,W,n⟩:=a;have q:=s j (fun _ _ e=>by cases e) (fun _ e=>by cases e)
     obtain ⟨fr,X,Y⟩:=hF.2 l args (part h none) g ok v ρ w D (Lo K none) u p;obtain ⟨fn,tm,assign,body,M,N⟩:=NT (E:=E) (h:=h) D hb (show GZ l args h=some fr from X) W
     obtain ⟨F,C,G,p1,p2,p3,p4⟩:=Y _ N c cs;exact ⟨F,C,G,p1.head (Z1 J A L z (.inr q) (n.trans M)),p2,p3,p4⟩
    ·cases m
   ·rename_i v h' j;cases m;have a:=Ie hE (h:=part h none) D H o;rw [show aop E t (part h none) o.op=_ from j] at a
    obtain ⟨rfl,C,hv,n⟩:=a;have q:=s j (fun _ _ e=>by cases e) (fun _ e=>by cases e)
    refine ⟨ρ,C,w,?_,hv,D,Ext.refl _ _ _⟩;show Steps E.P _ _;have Z:=ZE (cs:=cs) J A L z (.inr q) n;exact Steps.one (Z.trans (by simp [Frame.raise,J]))
   ·cases m
end
end Go.AE
namespace Go.AE
variable [Gl:AJ]
variable [U:Unk]
theorem IB {b:Nat}:∀{l:List Nat},Nz b l=true↔b∈l
 |[]=>by simp [Nz]
 |c::r=>by
  simp only [Nz,hP];cases e:Nat.beq b c with
  |true=>simp [Ay e]
  |false=>simp only;rw [IB];simp [WA e]
theorem HY:∀{l m:List Nat},JV l m=true→∀b∈l,b∉m
 |[],m,_,b,a=>by cases a
 |c::r,m,h,b,a=>by
  simp only [JV] at h;cases e:Nz c m with
  |true=>rw [e] at h;cases h
  |false=>
   rw [e] at h;rcases hP.1 a with rfl|a
   ·exact fun d=>by rw [IB.2 d] at e;cases e
   ·exact HY h b a
theorem Sx {lo hi:Nat}:∀{l:List Nat},X3 lo hi l=true→∀b∈l,¬(lo≤b∧b<hi)
 |[],_,b,a=>by cases a
 |c::r,h,b,a=>by
  simp only [X3] at h;cases e:Nat.ble lo c&&Nat.blt c hi with
  |true=>rw [e] at h;cases h
  |false=>
   rw [e] at h;rcases hP.1 a with rfl|a
   ·rintro ⟨d,f⟩
    have:(Nat.ble lo b&&Nat.blt b hi)=true:=by simp [Nat.ble_eq,Nat.blt_eq,d,f]
    rw [this] at e;cases e
   ·exact Sx h b a
theorem Cv {n b:Nat}:∀{l:List Nat},b∈BH n l↔b∈l∧b<n
 |[]=>by simp [BH]
 |c::r=>by
  simp only [BH];cases e:Nat.blt c n with
  |true=>
   simp only [hP,Cv];have:c<n:=by simpa [Nat.blt_eq] using e
   constructor
   ·rintro (rfl|h)
    ·exact ⟨.inl rfl,this⟩
    ·exact ⟨.inr h.1,h.2⟩
   ·rintro ⟨rfl|h,a⟩
    ·exact .inl rfl
    ·exact .inr ⟨h,a⟩
  |false=>
   simp only [hP,Cv]
   have:¬c<n:=by
    intro h;have:Nat.blt c n=true:=by simpa [Nat.blt_eq] using h
    rw [this] at e;cases e
   constructor
   ·rintro h;exact ⟨.inr h.1,h.2⟩
   ·rintro ⟨rfl|h,a⟩
    ·exact absurd a this
    ·exact ⟨h,a⟩
structure Rc.Apart (x y:Rc):Prop where
 fp1:∀b∈x.wr,∀l,y.fp=some l→b∉l
 fp1n:y.fp=none→x.wr=[]
 fp2:∀b∈y.wr,∀l,x.fp=some l→b∉l
 fp2n:x.fp=none→y.wr=[]
 wr:∀b∈x.wr,b∉y.wr
 out:∀b∈y.wr,¬(x.lo≤b∧b<x.hi)
 look1:∀t,x.dst=some t→t∉y.looks
 look2:∀t,y.dst=some t→t∉x.looks
 dst:∀t,x.dst=some t→y.dst≠some t
theorem KB {w l:List Nat} (h:Ik w (some l)=true):∀b∈w,b∉l:=HY h
theorem Rc.apart_ok {x y:Rc} (h:x.apart y=true):x.Apart y:=by
 simp only [Rc.apart,IqQ,zA] at h;obtain ⟨⟨⟨⟨⟨⟨I,J⟩,h3⟩,h4⟩,h5⟩,h6⟩,h7⟩:=h;refine ⟨fun b hb l hl=>?_,fun hn=>?_,fun b hb l hl=>?_,fun hn=>?_,HY h3,Sx h4,fun t r hm=>?_,fun t r hm=>?_,fun t r al=>?_⟩
 ·rw [hl] at I;exact KB I b hb
 ·rw [hn] at I;simpa [Ik] using I
 ·rw [hl] at J;exact KB J b hb
 ·rw [hn] at J;simpa [Ik] using J
 ·rw [r] at h5;rw [WI,IB.2 hm] at h5;cases h5
 ·rw [r] at h6;rw [WI,IB.2 hm] at h6;cases h6
 ·rw [r,al,YS,Fx] at h7;cases h7
theorem W4 (m i:Nat):Nat.beq (m/2^i%2) 1=m.testBit i:=by
 rw [Nat.testBit_eq_decide_div_mod_eq];by_cases h:m/2^i%2=1
 ·rw [h];rfl
 ·rw [GL h];simp [h]
theorem KP {y:Rc}:∀{l:List Rc} {p:Nat},Dj y l p=true→∀i x,l[i]?=some x→y.mask.testBit (p+i)=true∨x.Apart y
 |[],p,h,i,x,a=>by cases a
 |c::r,p,h,i,x,a=>by
  simp only [Dj,W4] at h;cases e:y.mask.testBit p||c.apart y with
  |false=>rw [e] at h;cases h
  |true=>
   rw [e] at h;cases i with
   |zero=>
    simp only [Nf,C2] at a;subst a;rcases Bool.or_eq_true_iff.1 e with e|e
    ·exact .inl e
    ·exact .inr (Rc.apart_ok e)
   |succ i=>
    have:=KP h i x (by simpa using a)
    rw [show p+(i+1)=p+1+i by omega]
    exact this
theorem DY {recs:List Rc}:∀{j:List Edge} {m:Nat},BM recs j=some m→
  (∀e∈j,Region.binds .any e=true→∃x,recs[e.on]?=some x)∧
  ∀i,m.testBit i=true↔∃e∈j,Region.binds .any e=true∧∃x,recs[e.on]?=some x∧(x.mask.testBit i=true∨i=e.on)
 |[],m,h=>by
  simp only [BM,C2] at h;subst h;simp
 |e::r,m,h=>by
  simp only [BM] at h;cases k:BM recs r with
  |none=>rw [k] at h;cases h
  |some m1=>
   rw [k] at h;obtain ⟨n,o⟩:=DY k;simp only at h;cases f:Region.binds .any e with
   |false=>
    rw [f] at h;simp only [C2] at h;subst h;refine ⟨fun a c b=>?_,fun i=>?_⟩
    ·rcases hP.1 c with rfl|c
     ·rw [f] at b;cases b
     ·exact n a c b
    ·rw [o];constructor
     ·rintro ⟨a,c,d⟩;exact ⟨a,by simp [c],d⟩
     ·rintro ⟨a,c,b,d⟩
      rcases hP.1 c with rfl|c
      ·rw [f] at b;cases b
      ·exact ⟨a,c,b,d⟩
   |true=>
    rw [f] at h;simp only at h;cases g:recs[e.on]? with
    |none=>rw [g] at h;cases h
    |some x=>
     rw [g] at h;simp only [C2] at h;subst h;refine ⟨fun a c b=>?_,fun i=>?_⟩
     ·rcases hP.1 c with rfl|c
      ·exact ⟨x,g⟩
      ·exact n a c b
     ·simp only [Nat.testBit_or,ws,Nat.testBit_two_pow,kp,o];constructor
      ·rintro ((⟨a,c,d⟩|h)|h)
       ·exact ⟨a,by simp [c],d⟩
       ·exact ⟨e,by simp,f,x,g,.inl h⟩
       ·exact ⟨e,by simp,f,x,g,.inr h.symm⟩
      ·rintro ⟨a,c,b,y,l,d⟩
       rcases hP.1 c with rfl|c
       ·rw [g] at l;cases l;rcases d with d|d
        ·exact .inl (.inr d)
        ·exact .inr d.symm
       ·exact .inl (.inl ⟨a,c,b,y,l,d⟩)
theorem FQ (blk g:T Ak):∀(l:List Nat) (b:Nat),(b∉l→(G3 blk g l).get b=blk.get b)∧(b∈l→(G3 blk g l).get b=none∨(blk.get b≠none∧(G3 blk g l).get b=g.get b))
 |[],b=>⟨fun _=>rfl,(fun h=>by cases h)⟩
 |c::r,b=>by
  have ih:=FQ blk g r b;simp only [G3];split
  ·rename_i x y a d;rw [T.get_set];refine ⟨fun h=>?_,fun h=>?_⟩
   ·rw [if_neg (by rintro rfl;simp at h)];exact ih.1 (by simp at h;exact h.2)
   ·by_cases e:c=b
    ·subst e;rw [if_pos rfl];exact .inr ⟨(by rw [d];exact F4 _),a.symm⟩
    ·rw [if_neg e];exact ih.2 ((hP.1 h).resolve_left (fun q=>e q.symm))
  ·rw [T.get_del];refine ⟨fun h=>?_,fun h=>?_⟩
   ·rw [if_neg (by rintro rfl;simp at h)];exact ih.1 (by simp at h;exact h.2)
   ·by_cases e:c=b
    ·subst e;rw [if_pos rfl];exact .inl rfl
    ·rw [if_neg e];exact ih.2 ((hP.1 h).resolve_left (fun q=>e q.symm))
theorem FW (blk g:T Ak):∀(n i b:Nat),(Is blk g i n).get b=if i≤b∧b<i+n∧g.get b≠none then g.get b else blk.get b
 |0,i,b=>by
  simp only [Is];rw [if_neg (by omega)]
 |n+1,i,b=>by
  have ih:=FW blk g n (i+1) b;simp only [Is];cases a:g.get i with
  |none=>
   simp only;rw [ih];by_cases e:i=b
   ·subst e;rw [if_neg (by omega),if_neg (by rintro ⟨_,_,h⟩;exact h a)]
   ·by_cases q:i+1≤b∧b<i+1+n∧g.get b≠none
    ·rw [if_pos q,if_pos ⟨by omega,by omega,q.2.2⟩]
    ·rw [if_neg q,if_neg (by rintro ⟨d,f,c⟩;exact q ⟨by omega,by omega,c⟩)]
  |some x=>
   simp only [T.get_set];by_cases e:i=b
   ·subst e;rw [if_pos rfl,if_pos ⟨by omega,by omega,(by rw [a];exact F4 _)⟩,a]
   ·rw [if_neg e,ih];by_cases q:i+1≤b∧b<i+1+n∧g.get b≠none
    ·rw [if_pos q,if_pos ⟨by omega,by omega,q.2.2⟩]
    ·rw [if_neg q,if_neg (by rintro ⟨d,f,c⟩;exact q ⟨by omega,by omega,c⟩)]
section
variable {h g:Aa}
theorem CQ (c:h.nx≤g.nx) {b:Nat} (a:b∉BH h.nx g.log) (d:b<h.nx∨g.nx≤b):(AX h g).blk.get b=h.blk.get b:=by
 simp only [AX,FW];rw [if_neg (by omega)]
 exact (FQ _ _ _ b).1 a
theorem Hi {b:Nat} (a:b∈BH h.nx g.log):(AX h g).blk.get b=none∨(h.blk.get b≠none∧(AX h g).blk.get b=g.blk.get b):=by
 have c:=(Cv.1 a).2;simp only [AX,FW];rw [if_neg (by omega)]
 exact (FQ _ _ _ b).2 a
theorem HZ (c:WF h) (f:h.nx≤g.nx) {b:Nat} (a:h.nx≤b) (i:b<g.nx):(AX h g).blk.get b=g.blk.get b:=by
 simp only [AX,FW];have d:b∉BH h.nx g.log:=fun e=>by have:=(Cv.1 e).2;omega
 cases j:g.blk.get b with
 |none=>
  rw [if_neg (by rintro ⟨_,_,h⟩;exact h rfl),(FQ _ _ _ b).1 d,c b a]
 |some x=>rw [if_pos ⟨a,by omega,fun e=>by cases e⟩]
theorem Hq (c:WF h) (d:h.nx≤g.nx):WF (AX h g):=by
 intro b f;have a:g.nx≤b:=f;rw [CQ d (fun e=>by have:=(Cv.1 e).2;omega) (.inr a)]
 exact c b (by omega)
theorem G2 (e:WF h) (d:h.nx≤g.nx) {b:Nat} (a:(AX h g).blk.get b≠none):h.blk.get b≠none∨(h.nx≤b∧b<g.nx):=by
 by_cases f:b<h.nx
 ·by_cases c:b∈BH h.nx g.log
  ·rcases Hi c with q|⟨q,_⟩
   ·exact absurd q a
   ·exact .inl q
  ·rw [CQ d c (.inl f)] at a;exact .inl a
 ·by_cases c:b<g.nx
  ·exact .inr ⟨by omega,c⟩
  ·exact absurd (Hq e d b (by show g.nx≤b;omega)) a
end
end Go.AE
namespace Go.AE
variable [Gl:AJ]
variable [U:Unk]
structure Tx (E:Env) (callF:Ask→Aa→Option (Bool×AV×Aa)) (all:Array Oper) (H:Nat→Aa) (Tm:Nat→T AV) (R:Nat→Rc) (Dd:Nat→Did) (j:Nat) (o:Oper):Prop where
 mask:BM ((List.range j).map R) o.after.toList=some (R j).mask
 did:Dp E callF all o (A0 (Tm j) (Bj all o)) (H j)=some (Dd j)
 nx:(H j).nx≤(Dd j).g.nx
structure Good (E:Env) (callF:Ask→Aa→Option (Bool×AV×Aa)) (all:Array Oper) (nt:Nat) (H:Nat→Aa) (Tm:Nat→T AV) (R:Nat→Rc) (Dd:Nat→Did) (j:Nat) (o:Oper):Prop where
 tx:Tx E callF all H Tm R Dd j o
 wr:(R j).wr=BH (H j).nx (Dd j).g.log
 fp:(R j).fp=(Dd j).fp
 lo:(R j).lo=(H j).nx
 hi:(R j).hi=(Dd j).g.nx
 dst:(R j).dst=o.dst
 looks:(R j).looks=Bj all o
 apart:Dj (R j) ((List.range j).map R) 0=true
 put:EB nt (Tm j) o.dst (Dd j).v=some (Tm (j+1))
 heap:H (j+1)=AX (H j) (Dd j).g
 ok:(Dd j).ok=true
structure Bad (E:Env) (callF:Ask→Aa→Option (Bool×AV×Aa)) (all:Array Oper) (H:Nat→Aa) (Tm:Nat→T AV) (R:Nat→Rc) (Dd:Nat→Did) (j:Nat) (o:Oper) (rest:List Oper):Prop where
 tx:Tx E callF all H Tm R Dd j o
 ok:(Dd j).ok=false
 all:(R j).mask+1=2^j
 after:∃recs:List Rc,recs.length=j∧recs=(List.range j).map R∧FB (recs++[{wr:=[],fp:=none,lo:=0,hi:=0,dst:=none,looks:=[],mask:=(R j).mask}]) j rest=true
section
variable {E:Env} {callF:Ask→Aa→Option (Bool×AV×Aa)} {all:Array Oper} {nt:Nat}
theorem Jt {b:Type} {R:Nat→b} {a:List b} (h:∀i x,a[i]?=some x→R i=x):(List.range a.length).map R=a:=by
 apply List.ext_getElem (by simp)
 intro i d c;simp only [List.getElem_map,List.getElem_range];exact h i _ (by simp [c])
theorem IW:∀(l:List Oper) (a:List Rc) (tmps:T AV) (h:Aa) (r:Option AV) (f:T AV) (h':Aa),BY E callF all nt l a tmps h=some (r,f,h')→
  ∃H z R D m,(∀i x,a[i]?=some x→R i=x)∧H a.length=h∧z a.length=tmps∧(∀i,i<m→∃o,l[i]?=some o∧Good E callF all nt H z R D (a.length+i) o)∧
   (r=none→m=l.length∧f=z (a.length+m)∧h'=H (a.length+m))∧
   (∀v,r=some v→∃o,l[m]?=some o∧Bad E callF all H z R D (a.length+m) o (l.drop (m+1))∧v=(D (a.length+m)).v∧f=z (a.length+m)∧h'=AX (H (a.length+m)) (D (a.length+m)).g)
 |[],a,tmps,h,r,f,h',c=>by
  simp only [BY,C2,hS] at c;obtain ⟨rfl,rfl,rfl⟩:=c;exact ⟨fun _=>h,fun _=>tmps,fun i=>a.getD i default,fun _=>default,0,fun i x A=>by simp [A],rfl,rfl,fun i hi=>absurd hi (gk _),fun _=>⟨rfl,rfl,rfl⟩,(fun v hv=>by cases hv)⟩
 |o::rest,a,tmps,h,r,f,h',c=>by
  simp only [BY] at c;cases q:BM a o.after.toList with
  |none=>rw [q] at c;cases c
  |some mask=>
   rw [q] at c;simp only at c;cases y:Dp E callF all o (A0 tmps (Bj all o)) h with
   |none=>rw [y] at c;cases c
   |some d=>
    rw [y] at c;simp only at c;cases F:Nat.ble h.nx d.g.nx with
    |false=>rw [F] at c;cases c
    |true=>
     have L:h.nx≤d.g.nx:=hH F;cases G:d.ok with
     |true=>
      rw [F,G] at c;simp only at c;cases J:Dj {wr:=BH h.nx d.g.log,fp:=d.fp,lo:=h.nx,hi:=d.g.nx,dst:=o.dst,looks:=Bj all o,mask} a 0 with
      |false=>rw [J] at c;cases c
      |true=>
       rw [J] at c;simp only at c;cases B:EB nt tmps o.dst d.v with
       |none=>rw [B] at c;cases c
       |some t1=>
        rw [B] at c;simp only at c;obtain ⟨H,z,R,D,m,W,X,Y,Z,q5,q6⟩:=IW rest _ t1 _ r f h' c;have hl:(a++[({wr:=BH h.nx d.g.log,fp:=d.fp,lo:=h.nx,hi:=d.g.nx,dst:=o.dst,looks:=Bj all o,mask}:Rc)]).length=a.length+1:=by simp
        rw [hl] at X Y Z q5 q6;have hR:R a.length={wr:=BH h.nx d.g.log,fp:=d.fp,lo:=h.nx,hi:=d.g.nx,dst:=o.dst,looks:=Bj all o,mask}:=W _ _ (by simp)
        have k:∀i x,a[i]?=some x→R i=x:=fun i x A=>W i x (by rw [Nj (LT.1 A).1];exact A)
        have C:=Jt k;have p:∀j,a.length+1≤j→(fun i=>if i≤a.length then h else H i) j=H j:=fun j hj=>if_neg (by omega)
        have u:∀j,a.length+1≤j→(fun i=>if i≤a.length then tmps else z i) j=z j:=fun j hj=>if_neg (by omega)
        have n:∀j,a.length+1≤j→(fun i=>if i≤a.length then d else D i) j=D j:=fun j hj=>if_neg (by omega)
        have w:(fun i=>if i≤a.length then h else H i) a.length=h:=if_pos (L1 _)
        have I:(fun i=>if i≤a.length then tmps else z i) a.length=tmps:=if_pos (L1 _)
        have s:(fun i=>if i≤a.length then d else D i) a.length=d:=if_pos (L1 _)
        generalize (fun i=>if i≤a.length then h else H i)=O at p w
        generalize (fun i=>if i≤a.length then tmps else z i)=M at u I
        generalize (fun i=>if i≤a.length then d else D i)=K at n s
        have N:∀j x,a.length+1≤j→Tx E callF all H z R D j x→Tx E callF all O M R K j x:=by
         intro j x hj t;refine ⟨t.mask,?_,?_⟩
         ·rw [u j hj,p j hj,n j hj];exact t.did
         ·rw [p j hj,n j hj];exact t.nx
        have e:∀i,a.length+(i+1)=a.length+1+i:=fun i=>by omega
        refine ⟨O,M,R,K,m+1,k,w,I,?_,?_,?_⟩
        ·intro i hi;cases i with
         |zero=>
          refine ⟨o,rfl,⟨⟨?_,?_,?_⟩,?_,?_,?_,?_,?_,?_,?_,?_,?_,?_⟩⟩
          ·rw [n0,C,hR];exact q
          ·rw [n0,I,w,s];exact y
          ·rw [n0,w,s];exact L
          ·rw [n0,hR,w,s]
          ·rw [n0,hR,s]
          ·rw [n0,hR,w]
          ·rw [n0,hR,s]
          ·rw [n0,hR]
          ·rw [n0,hR]
          ·rw [n0,C,hR];exact J
          ·rw [n0,I,s,u _ (L1 _),Y];exact B
          ·show O (a.length+1)=AX (O a.length) (K a.length).g;rw [w,s,p _ (L1 _),X]
          ·rw [n0,s];exact G
         |succ i=>
          obtain ⟨x,A,g⟩:=Z i (by omega)
          have hj:a.length+1≤a.length+1+i:=by omega
          refine ⟨x,by simpa using A,?_⟩
          rw [e];refine ⟨N _ _ hj g.tx,?_,?_,?_,?_,g.dst,g.looks,g.apart,?_,?_,?_⟩
          ·rw [p _ hj,n _ hj];exact g.wr
          ·rw [n _ hj];exact g.fp
          ·rw [p _ hj];exact g.lo
          ·rw [n _ hj];exact g.hi
          ·rw [u _ hj,n _ hj,u _ (by omega)];exact g.put
          ·rw [p _ hj,n _ hj,p _ (by omega)];exact g.heap
          ·rw [n _ hj];exact g.ok
        ·intro hr;obtain ⟨P,Q,S⟩:=q5 hr;refine ⟨by simp [P],?_,?_⟩
         ·rw [e,u _ (by omega)];exact Q
         ·rw [e,p _ (by omega)];exact S
        ·intro v hv;obtain ⟨x,A,b,P,Q,S⟩:=q6 v hv;have hj:a.length+1≤a.length+1+m:=by omega
         refine ⟨x,by simpa using A,?_,?_,?_,?_⟩
         ·rw [e];exact ⟨N _ _ hj b.tx,by rw [n _ hj];exact b.ok,b.all,by simpa using b.after⟩
         ·rw [e,n _ hj];exact P
         ·rw [e,u _ hj];exact Q
         ·rw [e,p _ hj,n _ hj];exact S
     |false=>
      rw [F,G] at c;simp only at c;cases V:Nat.beq (mask+1) (2^a.length)&&FB (a++[{wr:=[],fp:=none,lo:=0,hi:=0,dst:=none,looks:=[],mask}]) a.length rest with
      |false=>rw [V] at c;cases c
      |true=>
       rw [V] at c;simp only [C2,hS] at c;obtain ⟨rfl,rfl,rfl⟩:=c;obtain ⟨c1,c2⟩:=Au V
       have k:∀i x,a[i]?=some x→(fun i=>if i<a.length then a.getD i default else ({wr:=[],fp:=none,lo:=0,hi:=0,dst:=none,looks:=[],mask}:Rc)) i=x:=by
        intro i x A;have:=(LT.1 A).1;simp only [this,if_true];simp [A]
       have hR:(fun i=>if i<a.length then a.getD i default else ({wr:=[],fp:=none,lo:=0,hi:=0,dst:=none,looks:=[],mask}:Rc)) a.length={wr:=[],fp:=none,lo:=0,hi:=0,dst:=none,looks:=[],mask}:=if_neg (Nat.lt_irrefl _)
       generalize (fun i=>if i<a.length then a.getD i default else ({wr:=[],fp:=none,lo:=0,hi:=0,dst:=none,looks:=[],mask}:Rc))=R at k hR
       have C:=Jt k;refine ⟨fun _=>h,fun _=>tmps,R,fun _=>d,0,k,rfl,rfl,fun i hi=>absurd hi (gk _),(fun hv=>by cases hv),fun v hv=>?_⟩
       cases hv;refine ⟨o,rfl,⟨⟨?_,y,L⟩,G,?_,a,rfl,?_,?_⟩,rfl,rfl,rfl⟩
       ·rw [n0,C,hR];exact q
       ·show (R a.length).mask+1=2^a.length;rw [hR];exact Ay c1
       ·rw [n0,C]
       ·rw [n0,hR];simpa using c2
end
end Go.AE
namespace Go.AE
variable [Gl:AJ]
variable [U:Unk]
def ins (D:Nat→Bool) (j:Nat):Nat→Bool:=fun i=>if i=j then true else D i
def Cn (H:Nat→Aa) (R:Nat→Rc) (D:Nat→Bool):Nat→Nat→Option Ak
 |0,b=>(H 0).blk.get b
 |j+1,b=>if D j=true∧(b∈(R j).wr∨((R j).lo≤b∧b<(R j).hi)) then (H (j+1)).blk.get b else Cn H R D j b
def Tn (a:Nat→T AV) (R:Nat→Rc) (D:Nat→Bool):Nat→Tmp→Option AV
 |0,t=>(a 0).get t
 |j+1,t=>if D j=true∧(R j).dst=some t then (a (j+1)).get t else Tn a R D j t
structure Cd (E:Env) (callF:Ask→Aa→Option (Bool×AV×Aa)) (all:Array Oper) (nt:Nat) (H:Nat→Aa) (Tm:Nat→T AV) (R:Nat→Rc) (Dd:Nat→Did) (n:Nat):Prop where
 good:∀j,j<n→∃o,all[j]?=some o∧Good E callF all nt H Tm R Dd j o
 wf:WF (H 0)
section
variable {E:Env} {callF:Ask→Aa→Option (Bool×AV×Aa)} {all:Array Oper} {nt:Nat} {H:Nat→Aa} {Tm:Nat→T AV} {R:Nat→Rc} {Dd:Nat→Did} {n:Nat}
 (X:Cd E callF all nt H Tm R Dd n)
include X
theorem Cd.hi {j:Nat} (hj:j<n):(H (j+1)).nx=(R j).hi:=by
 obtain ⟨o,_,g⟩:=X.good j hj;rw [g.heap,g.hi];rfl
theorem Cd.lo {j:Nat} (hj:j<n):(R j).lo=(H j).nx:=by
 obtain ⟨o,_,g⟩:=X.good j hj;exact g.lo
theorem Cd.le {j:Nat} (hj:j<n):(R j).lo≤(R j).hi:=by
 obtain ⟨o,_,g⟩:=X.good j hj;rw [g.lo,g.hi];exact g.tx.nx
theorem Cd.mono {i:Nat}:∀{j:Nat},i≤j→j≤n→(H i).nx≤(H j).nx
 |0,l,_=>by rw [Nat.le_zero.1 l];exact L1 _
 |j+1,l,hj=>by
  rcases R2 i (j+1) with h|h
  ·have:=Cd.mono (i:=i) (j:=j) (by omega) (by omega)
   have r:=X.hi (j:=j) (by omega)
   have t:=X.lo (j:=j) (by omega)
   have I:=X.le (j:=j) (by omega)
   omega
  ·have:i=j+1:=by omega
   rw [this];exact L1 _
theorem Cd.wfAt:∀{j:Nat},j≤n→WF (H j)
 |0,_=>X.wf
 |j+1,hj=>by
  obtain ⟨o,_,g⟩:=X.good j (by omega)
  rw [g.heap];exact Hq (Cd.wfAt (j:=j) (by omega)) g.tx.nx
theorem Cd.bits {j:Nat} (hj:j<n):∀{i:Nat},(R j).mask.testBit i=true→i<j:=by
 induction j using Nat.strongRecOn with
 |ind j ih=>
  intro i hi;obtain ⟨o,_,g⟩:=X.good j hj;obtain ⟨e,I,J,x,r,h⟩:=((DY g.tx.mask).2 i).1 hi
  have l:e.on<j:=by
   have:=(LT.1 r).1;simpa using this
  have t:x=R e.on:=by
   rw [sd,zG l] at r;simpa using r.symm
  rcases h with h|h
  ·rw [t] at h;have:=ih e.on l (by omega) h
   omega
  ·omega
theorem Cd.apart {i j:Nat} (l:i<j) (hj:j<n) (r:(R j).mask.testBit i=false):(R i).Apart (R j):=by
 obtain ⟨o,_,g⟩:=X.good j hj;rcases KP g.apart i (R i) (by rw [sd,zG l];rfl) with h|h
 ·rw [pi,r] at h;cases h
 ·exact h
theorem Cd.stay {j:Nat} (hj:j<n) {b:Nat} (l:b∉(R j).wr) (r:¬((R j).lo≤b∧b<(R j).hi)):(H (j+1)).blk.get b=(H j).blk.get b:=by
 obtain ⟨o,_,g⟩:=X.good j hj;rw [g.wr] at l;rw [g.lo,g.hi] at r;rw [g.heap];exact CQ g.tx.nx l (by omega)
theorem Cd.wr_lt {j:Nat} (hj:j<n) {b:Nat} (l:b∈(R j).wr):b<(H j).nx:=by
 obtain ⟨o,_,g⟩:=X.good j hj;rw [g.wr] at l;exact (Cv.1 l).2
theorem Cd.cn_text {D:Nat→Bool} {b:Nat}:∀{m:Nat},m≤n→(∀i,i<m→D i=false→b∉(R i).wr∧¬((R i).lo≤b∧b<(R i).hi))→Cn H R D m b=(H m).blk.get b
 |0,_,_=>rfl
 |m+1,t,h=>by
  simp only [Cn];by_cases l:D m=true∧(b∈(R m).wr∨((R m).lo≤b∧b<(R m).hi))
  ·rw [if_pos l]
  ·rw [if_neg l,Cd.cn_text (m:=m) (by omega) fun i hi=>h i (by omega)]
   have:b∉(R m).wr∧¬((R m).lo≤b∧b<(R m).hi):=by
    cases r:D m with
    |false=>exact h m (by omega) r
    |true=>exact ⟨fun q=>l ⟨r,.inl q⟩,fun q=>l ⟨r,.inr q⟩⟩
   exact (X.stay (by omega) this.1 this.2).symm
omit X in
theorem Ly {D:Nat→Bool} {b j:Nat}:∀{m:Nat},j≤m→(∀i,j≤i→i<m→D i=true→b∉(R i).wr∧¬((R i).lo≤b∧b<(R i).hi))→Cn H R D m b=Cn H R D j b
 |0,hj,_=>by rw [Nat.le_zero.1 hj]
 |m+1,hj,h=>by
  rcases R2 j (m+1) with hlt|hge
  ·simp only [Cn];rw [if_neg,Ly (by omega) fun i h1 h2=>h i h1 (by omega)]
   rintro ⟨hD,q⟩
   obtain ⟨a1,a2⟩:=h m (by omega) (by omega) hD
   exact q.elim a1 a2
  ·rw [show j=m+1 by omega]
omit X in
theorem Z8 {D:Nat→Bool} {b j:Nat} (hD:D j=false) (h1:b∉(R j).wr) (h2:¬((R j).lo≤b∧b<(R j).hi)):∀m,Cn H R (ins D j) m b=Cn H R D m b
 |0=>rfl
 |m+1=>by
  simp only [Cn];rw [Z8 hD h1 h2 m];by_cases e:m=j
  ·subst e;rw [if_neg (by rintro ⟨_,q⟩;exact q.elim h1 h2),if_neg (by rintro ⟨q,_⟩;rw [hD] at q;cases q)]
  ·simp [ins,e]
omit X in
theorem Ws {D:Nat→Bool} {b j m:Nat} (hjm:j<m) (h1:b∈(R j).wr∨((R j).lo≤b∧b<(R j).hi)) (h2:∀i,j<i→i<m→D i=true→b∉(R i).wr∧¬((R i).lo≤b∧b<(R i).hi)) :
  Cn H R (ins D j) m b=(H (j+1)).blk.get b:=by
 rw [Ly (j:=j+1) hjm fun i a1 a2 hD=>h2 i a1 a2 (by simpa [ins,show i≠j by omega] using hD)]
 simp only [Cn];rw [if_pos ⟨by simp [ins],h1⟩]
theorem Cd.tput {j:Nat} (hj:j<n) {t:Tmp} (r:(R j).dst≠some t):(Tm (j+1)).get t=(Tm j).get t:=by
 obtain ⟨o,_,g⟩:=X.good j hj;have l:=g.put;rw [g.dst] at r;unfold EB at l;split at l
 ·rename_i d I;split at l
  ·simp only [C2] at l;rw [←l,T.get_set,if_neg]
   rintro rfl;exact r I
  ·cases l
 ·simp only [C2] at l;rw [l]
theorem Cd.tn_text {D:Nat→Bool} {t:Tmp}:∀{m:Nat},m≤n→(∀i,i<m→D i=false→(R i).dst≠some t)→Tn Tm R D m t=(Tm m).get t
 |0,_,_=>rfl
 |m+1,r,h=>by
  simp only [Tn];by_cases l:D m=true∧(R m).dst=some t
  ·rw [if_pos l]
  ·rw [if_neg l,Cd.tn_text (m:=m) (by omega) fun i hi=>h i (by omega)]
   refine (X.tput (by omega) ?_).symm
   cases hD:D m with
   |false=>exact h m (by omega) hD
   |true=>exact fun q=>l ⟨hD,q⟩
omit X in
theorem LH {D:Nat→Bool} {t:Tmp} {j:Nat}:∀{m:Nat},j≤m→(∀i,j≤i→i<m→D i=true→(R i).dst≠some t)→Tn Tm R D m t=Tn Tm R D j t
 |0,hj,_=>by rw [Nat.le_zero.1 hj]
 |m+1,hj,h=>by
  rcases R2 j (m+1) with hlt|hge
  ·simp only [Tn];rw [if_neg,LH (by omega) fun i h1 h2=>h i h1 (by omega)]
   rintro ⟨hD,q⟩
   exact h m (by omega) (by omega) hD q
  ·rw [show j=m+1 by omega]
omit X in
theorem Xh {D:Nat→Bool} {t:Tmp} {j:Nat} (hD:D j=false) (h1:(R j).dst≠some t):∀m,Tn Tm R (ins D j) m t=Tn Tm R D m t
 |0=>rfl
 |m+1=>by
  simp only [Tn];rw [Xh hD h1 m];by_cases e:m=j
  ·subst e;rw [if_neg (by rintro ⟨_,q⟩;exact h1 q),if_neg (by rintro ⟨q,_⟩;rw [hD] at q;cases q)]
  ·simp [ins,e]
omit X in
theorem WO {D:Nat→Bool} {t:Tmp} {j m:Nat} (hjm:j<m) (h1:(R j).dst=some t) (h2:∀i,j<i→i<m→D i=true→(R i).dst≠some t):Tn Tm R (ins D j) m t=(Tm (j+1)).get t:=by
 rw [LH (j:=j+1) hjm fun i a1 a2 hD=>h2 i a1 a2 (by simpa [ins,show i≠j by omega] using hD)]
 simp only [Tn];rw [if_pos ⟨by simp [ins],h1⟩]
end
end Go.AE
namespace Go.AE
variable [Gl:AJ]
variable [U:Unk]
theorem HR.weaken {ρ:Ren} {g t:Nat→Option Ak} {w:World} (h:HR ρ g w) (J:∀b x,ρ b≠none→t b=some x→g b=some x):HR ρ t w:=by
 refine ⟨h.lt,fun b base x r l=>h.blk b base x r (J b x (by rw [r];exact F4 _) l),fun b b' base base' al r I h1 h2=>h.apart b b' base base' al r I ?_ ?_,h.imm,fun k arr b base hk r hl=>h.off k arr b base hk r ?_,h.glob⟩
 ·cases l:t b with
  |none=>exact absurd l h1
  |some x=>rw [J b x (by rw [r];exact F4 _) l];exact F4 _
 ·cases l:t b' with
  |none=>exact absurd l h2
  |some x=>rw [J b' x (by rw [I];exact F4 _) l];exact F4 _
 ·cases l:t b with
  |none=>exact absurd l hl
  |some x=>rw [J b x (by rw [r];exact F4 _) l];exact F4 _
structure Inv (nt:Nat) (H:Nat→Aa) (Tm:Nat→T AV) (R:Nat→Rc) (n M:Nat) (ρ0:Ren) (w0:World) (D:Nat→Bool) (ρ:Ren) (tm:Array Value) (w:World):Prop where
 sub:∀j,D j=true→j<n
 closed:∀j,D j=true→∀i,(R j).mask.testBit i=true→D i=true
 size:tm.size=nt
 tmp:∀t x,Tn Tm R D n t=some x→VR ρ x (tm.getD t undef)
 heap:HR ρ (Cn H R D n) w
 free:∀b,(H 0).nx≤b→b<M→ρ b≠none→∃j,D j=true∧(R j).lo≤b∧b<(R j).hi
 le:ρ0.le ρ
 calm:G5 w0 w
 new:∀b base,ρ b=some base→ρ0 b=some base∨((H 0).nx≤b∧b<(H n).nx∧(w0.heap.size≤base.cb∨∃b0 base0,ρ0 b0=some base0∧(H 0).blk.get b0≠none∧base0.cb=base.cb))
 kept:∀k,k<w0.heap.size→(∀b base,ρ0 b=some base→(H 0).blk.get b≠none→base.cb≠k)→w.heap[k]?=w0.heap[k]?
 imm:∀k arr,ρ.imm k=some arr→ρ0.imm k=some arr∨w0.heap.size≤k∨∃b0 base0,ρ0 b0=some base0∧(H 0).blk.get b0≠none∧base0.cb=k
section
variable {E:Env} {callF:Ask→Aa→Option (Bool×AV×Aa)} {all:Array Oper} {nt:Nat} {H:Nat→Aa} {Tm:Nat→T AV} {R:Nat→Rc} {Dd:Nat→Did} {n M:Nat}
 {ρ0 ρ:Ren} {w0 w:World} {tm:Array Value} {D:Nat→Bool} (X:Cd E callF all nt H Tm R Dd n)
include X
theorem Cd.live {b:Nat} (l:b<(H 0).nx):∀{j:Nat},j≤n→(H j).blk.get b≠none→(H 0).blk.get b≠none
 |0,_,h=>h
 |j+1,hj,h=>by
  obtain ⟨o,_,g⟩:=X.good j (by omega)
  rw [g.heap] at h;have:=X.mono (i:=0) (j:=j) (by omega) (by omega)
  rcases G2 (X.wfAt (by omega)) g.tx.nx h with h|h
  ·exact Cd.live l (j:=j) (by omega) h
  ·omega
theorem Cd.cn_live {b:Nat} (l:b<(H 0).nx):∀{m:Nat},m≤n→Cn H R D m b≠none→(H 0).blk.get b≠none
 |0,_,h=>h
 |m+1,r,h=>by
  simp only [Cn] at h;split at h
  ·exact X.live l (by omega) h
  ·exact Cd.cn_live l (m:=m) (by omega) h
theorem Cd.disj {i j b:Nat} (hi:i<n) (hj:j<n) (l:(R i).lo≤b∧b<(R i).hi) (r:(R j).lo≤b∧b<(R j).hi):i=j:=by
 rcases Nat.lt_trichotomy i j with h|h|h
 ·have:=X.mono (i:=i+1) (j:=j) (by omega) (by omega)
  have a:=X.hi hi;have c:=X.lo hj;omega
 ·exact h
 ·have:=X.mono (i:=j+1) (j:=i) (by omega) (by omega)
  have a:=X.hi hj;have c:=X.lo hi;omega
theorem Cd.agree (I:Inv nt H Tm R n M ρ0 w0 D ρ tm w) (hM:(H n).nx≤M) {j:Nat} (hj:j<n) (hD:D j=false) (al:∀i,(R j).mask.testBit i=true→D i=true) {b:Nat} {x:Ak} (hb:ρ b≠none)
  (hx:(part (H j) (Dd j).fp).blk.get b=some x):Cn H R D n b=some x:=by
 obtain ⟨o,ho,g⟩:=X.good j hj
 have J:(H j).blk.get b=some x∧(∀l,(R j).fp=some l→b∈l):=by
  rw [g.fp];cases r:(Dd j).fp with
  |none=>rw [r] at hx;exact ⟨hx,(fun l hl=>by cases hl)⟩
  |some be=>
   rw [r] at hx;rcases DD (H j) be b with q|⟨q1,q2⟩
   ·simp only [part] at hx;rw [q] at hx;cases hx
   ·exact ⟨q2▸hx,fun l hl=>by cases hl;exact q1⟩
 have bn:b<(H j).nx:=by
  rcases R2 b (H j).nx with h|h
  ·exact h
  ·rw [X.wfAt (by omega) b h] at J;cases J.1
 have ar:∀i,i<n→i≠j→(i<j→(R j).mask.testBit i=false)→(j<i→(R i).mask.testBit j=false)→b∉(R i).wr:=by
  intro i hi av h1 h2 hm;rcases R2 i j with h|h
  ·have a:=X.apart h hj (h1 h);cases r:(R j).fp with
   |none=>rw [a.fp1n r] at hm;cases hm
   |some l=>exact a.fp1 b hm l r (J.2 l r)
  ·have a:=X.apart (show j<i by omega) hi (h2 (by omega))
   cases r:(R j).fp with
   |none=>rw [a.fp2n r] at hm;cases hm
   |some l=>exact a.fp2 b hm l r (J.2 l r)
 have hC:Cn H R D n b=Cn H R D j b:=by
  refine Ly (by omega) fun i h1 h2 t=>?_
  have av:i≠j:=by rintro rfl;rw [hD] at t;cases t
  refine ⟨ar i h2 av (fun h=>by omega) fun h=>?_,?_⟩
  ·cases hb:(R i).mask.testBit j with
   |false=>rfl
   |true=>rw [I.closed i t j hb] at hD;cases hD
  ·have:=X.mono (i:=j) (j:=i) h1 (by omega)
   have:=X.lo h2;omega
 rw [hC,X.cn_text (by omega) fun i hi t=>?_,J.1]
 refine ⟨ar i (by omega) (by omega) (fun h=>?_) (fun h=>by omega),fun bd=>?_⟩
 ·cases hb:(R j).mask.testBit i with
  |false=>rfl
  |true=>rw [al i hb] at t;cases t
 ·have bs:=X.lo (show i<n by omega)
  have h0:=X.mono (i:=0) (j:=i) (by omega) (by omega)
  have h1:=X.mono (i:=j) (j:=n) (by omega) (by omega)
  obtain ⟨j',an,bm⟩:=I.free b (by omega) (by omega) hb
  have:=X.disj (show i<n by omega) (I.sub j' an) bd bm
  subst this;rw [t] at an;cases an
theorem Cd.tagree (I:Inv nt H Tm R n M ρ0 w0 D ρ tm w) {j:Nat} (hj:j<n) (J:D j=false) (r:∀i,(R j).mask.testBit i=true→D i=true):TR ρ nt (A0 (Tm j) (R j).looks) tm:=by
 refine ⟨I.size,fun t x hx=>?_⟩
 obtain ⟨hl,y,hy,rfl⟩:=DG _ _ _ _ hx;refine Pj (I.tmp t y ?_)
 have hT:Tn Tm R D n t=Tn Tm R D j t:=by
  refine LH (by omega) fun i h1 h2 l hd=>?_
  have al:i≠j:=by rintro rfl;rw [J] at l;cases l
  have a:=X.apart (show j<i by omega) h2 (by
   cases hb:(R i).mask.testBit j with
   |false=>rfl
   |true=>rw [I.closed i l j hb] at J;cases J)
  exact a.look2 t hd hl
 rw [hT,X.tn_text (by omega) fun i hi l hd=>?_,hy]
 have a:=X.apart hi hj (by
  cases hb:(R j).mask.testBit i with
  |false=>rfl
  |true=>rw [r i hb] at l;cases l)
 exact a.look1 t hd hl
end
end Go.AE
namespace Go.AE
variable [Gl:AJ]
variable [U:Unk]
section
variable {E:Env} {callF:Ask→Aa→Option (Bool×AV×Aa)} {all:Array Oper} {nt:Nat} {H:Nat→Aa} {Tm:Nat→T AV} {R:Nat→Rc} {Dd:Nat→Did} {n M:Nat}
 {ρ0 ρ σ:Ren} {w0 w w':World} {tm:Array Value} {D:Nat→Bool} (X:Cd E callF all nt H Tm R Dd n)
include X
theorem Cd.after (I:Inv nt H Tm R n M ρ0 w0 D ρ tm w) (hM:(H n).nx≤M) {j:Nat} (hj:j<n) (hD:D j=false) (b2:∀i,(R j).mask.testBit i=true→D i=true)
  (q3:HR σ (Dd j).g.blk.get w') (q4:Ext ρ σ (part (H j) (Dd j).fp) (Dd j).g w w'):HR σ (Cn H R (ins D j) n) w':=by
 obtain ⟨o,ho,g⟩:=X.good j hj;have bd:(part (H j) (Dd j).fp).nx=(H j).nx:=by cases (Dd j).fp<;>rfl
 have b8:(part (H j) (Dd j).fp).log=[]:=by cases (Dd j).fp<;>rfl
 obtain ⟨l,cc,dv⟩:=q4.log;rw [b8,zJ] at cc;have b5:∀b x,ρ b≠none→(part (H j) (Dd j).fp).blk.get b=some x→Cn H R D n b=some x:=fun b x J hx=>X.agree I hM hj hD b2 J hx
 have b6:∀b,(b∈(R j).wr∨((R j).lo≤b∧b<(R j).hi))→∀i,j<i→i<n→D i=true→b∉(R i).wr∧¬((R i).lo≤b∧b<(R i).hi):=by
  intro b J i hi cd ea
  have a:=X.apart hi cd (by
   cases J:(R i).mask.testBit j with
   |false=>rfl
   |true=>rw [I.closed i ea j J] at hD;cases hD)
  have h1:=X.mono (i:=j+1) (j:=i) (by omega) (by omega)
  have h2:=X.hi hj;have h3:=X.lo cd;have h4:=X.lo hj;have h5:=X.le hj;rcases J with J|J
  ·have:=X.wr_lt hj J;exact ⟨a.wr b J,fun h=>by omega⟩
  ·exact ⟨fun h=>a.out b h J,fun h=>by omega⟩
 have ar:∀b x,Cn H R (ins D j) n b=some x→((b∈(R j).wr∨((R j).lo≤b∧b<(R j).hi))∧(Dd j).g.blk.get b=some x)∨((b∉(R j).wr∧¬((R j).lo≤b∧b<(R j).hi))∧Cn H R D n b=some x):=by
  intro b x hx;by_cases J:b∈(R j).wr∨((R j).lo≤b∧b<(R j).hi)
  ·refine .inl ⟨J,?_⟩;rw [Ws hj J (b6 b J),g.heap] at hx;rcases J with J|J
   ·rw [g.wr] at J;rcases Hi J with q|⟨_,q⟩
    ·rw [q] at hx;cases hx
    ·rw [←q];exact hx
   ·rw [g.lo,g.hi] at J;rw [HZ (X.wfAt (by omega)) g.tx.nx J.1 J.2] at hx
    exact hx
  ·have cf:b∉(R j).wr:=fun q=>J (.inl q)
   have ck:¬((R j).lo≤b∧b<(R j).hi):=fun q=>J (.inr q)
   rw [Z8 hD cf ck] at hx;exact .inr ⟨⟨cf,ck⟩,hx⟩
 have an:∀b base x,(b∉(R j).wr∧¬((R j).lo≤b∧b<(R j).hi))→σ b=some base→Cn H R D n b=some x→ρ b=some base∧((part (H j) (Dd j).fp).blk.get b≠none→(Dd j).g.blk.get b=some x):=by
  intro b base x J hs hx
  have al:ρ b=some base:=by
   rcases q4.new b base hs with h|⟨h1,h2,_⟩
   ·exact h
   ·rw [bd] at h1;exact absurd ⟨g.lo▸h1,g.hi▸h2⟩ J.2
  refine ⟨al,fun hp=>?_⟩
  cases hy:(part (H j) (Dd j).fp).blk.get b with
  |none=>exact absurd hy hp
  |some y=>
   have:=b5 b y (by rw [al];exact F4 _) hy
   rw [hx] at this;cases this
   have cm:b<(H j).nx:=by
    rcases R2 b (H j).nx with h|h
    ·exact h
    ·have:=Lo (X.wfAt (j:=j) (by omega)) (Dd j).fp b (by rw [bd];exact h)
     rw [this] at hy;cases hy
   rw [dv b ?_ (.inl (by rw [bd];exact cm)),hy]
   intro hm;refine J.1 ?_;rw [g.wr,Cv,cc];exact ⟨hm,cm⟩
 refine ⟨q3.lt,fun b base x hs hx=>?_,fun b b' base r av hs be h1 h2=>?_,q3.imm,fun k arr b base hk hs hl=>?_,q3.glob⟩
 ·rcases ar b x hx with ⟨_,hg⟩|⟨J,hc⟩
  ·exact q3.blk b base x hs hg
  ·obtain ⟨al,bm⟩:=an b base x J hs hc;by_cases hp:(part (H j) (Dd j).fp).blk.get b=none
   ·have hk:=q4.kept base.cb (I.heap.lt b base al) (fun b0 t bn bs=>by
     have av:b0≠b:=by rintro rfl;exact bs hp
     cases hy:(part (H j) (Dd j).fp).blk.get b0 with
     |none=>exact absurd hy bs
     |some y=>
      have:=b5 b0 y (by rw [bn];exact F4 _) hy
      exact I.heap.apart b0 b t base av bn al (by rw [this];exact F4 _) (by rw [hc];exact F4 _))
    rw [hk];exact (I.heap.blk b base x al hc).mono q4.le
   ·exact q3.blk b base x hs (bm hp)
 ·have key:∀b b' base r,b≠b'→σ b=some base→σ b'=some r→Cn H R (ins D j) n b≠none→Cn H R (ins D j) n b'≠none→(Dd j).g.blk.get b=none→base.cb≠r.cb:=by
   intro b b' base r av hs be h1 h2 cv;cases hx:Cn H R (ins D j) n b with
   |none=>exact absurd hx h1
   |some x=>
    cases dd:Cn H R (ins D j) n b' with
    |none=>exact absurd dd h2
    |some x'=>
     rcases ar b x hx with ⟨_,hg⟩|⟨J,hc⟩
     ·rw [cv] at hg;cases hg
     ·obtain ⟨al,bm⟩:=an b base x J hs hc
      have hp:(part (H j) (Dd j).fp).blk.get b=none:=by
       cases hp:(part (H j) (Dd j).fp).blk.get b with
       |none=>rfl
       |some y=>have:=bm (by rw [hp];exact F4 _);rw [cv] at this;cases this
      have bv:Cn H R D n b≠none:=by rw [hc];exact F4 _
      have df:∀b0 t,ρ b0=some t→(part (H j) (Dd j).fp).blk.get b0≠none→base.cb≠t.cb:=by
       intro b0 t bn bs;have b1:b≠b0:=by rintro rfl;exact bs hp
       cases hy:(part (H j) (Dd j).fp).blk.get b0 with
       |none=>exact absurd hy bs
       |some y=>
        have:=b5 b0 y (by rw [bn];exact F4 _) hy
        exact I.heap.apart b b0 base t b1 al bn bv (by rw [this];exact F4 _)
      rcases ar b' x' dd with ⟨dp,b7⟩|⟨dp,ds⟩
      ·rcases q4.new b' r be with h|⟨_,_,h|⟨b0,t,e1,e2,e3⟩⟩
       ·rcases q4.live b' (by rw [b7];exact F4 _) with hl|⟨hl,eb⟩
        ·exact df b' r h hl
        ·
         rw [bd] at hl;have ed:=X.lo hj;have h0:=X.mono (i:=0) (j:=j) (by omega) (by omega)
         have h1:=X.mono (i:=j+1) (j:=n) (by omega) (by omega)
         have h2:=X.hi hj;rw [g.hi] at h2;obtain ⟨j',b9,ec⟩:=I.free b' (by omega) (by omega) (by rw [h];exact F4 _)
         have:=X.disj hj (I.sub j' b9) ⟨by omega,by rw [g.hi];exact eb⟩ ec
         subst this;rw [hD] at b9;cases b9
       ·have:=I.heap.lt b base al;omega
       ·rw [←e3];exact df b0 t e1 e2
      ·obtain ⟨du,_⟩:=an b' r x' dp be ds;exact I.heap.apart b b' base r av al du bv (by rw [ds];exact F4 _)
  by_cases hg:(Dd j).g.blk.get b=none
  ·exact key b b' base r av hs be h1 h2 hg
  ·by_cases b7:(Dd j).g.blk.get b'=none
   ·exact fun e=>key b' b r base (Ne.symm av) be hs h2 h1 b7 e.symm
   ·exact q3.apart b b' base r av hs be hg b7
 ·cases hx:Cn H R (ins D j) n b with
  |none=>exact absurd hx hl
  |some x=>
   rcases ar b x hx with ⟨_,hg⟩|⟨J,hc⟩
   ·exact q3.off k arr b base hk hs (by rw [hg];exact F4 _)
   ·obtain ⟨al,bm⟩:=an b base x J hs hc;have bv:Cn H R D n b≠none:=by rw [hc];exact F4 _
    by_cases hp:(part (H j) (Dd j).fp).blk.get b=none
    ·rcases q4.imm k arr hk with h|h|⟨b0,t,e1,e2,e3⟩
     ·exact I.heap.off k arr b base h al bv
     ·have:=I.heap.lt b base al;omega
     ·have b1:b≠b0:=by rintro rfl;exact e2 hp
      cases hy:(part (H j) (Dd j).fp).blk.get b0 with
      |none=>exact absurd hy e2
      |some y=>
       have:=b5 b0 y (by rw [e1];exact F4 _) hy
       rw [←e3];exact I.heap.apart b b0 base t b1 al e1 bv (by rw [this];exact F4 _)
    ·exact q3.off k arr b base hk hs (by rw [bm hp];exact F4 _)
theorem Cd.step (I:Inv nt H Tm R n M ρ0 w0 D ρ tm w) (hM:(H n).nx≤M) (av:AW ρ0 (H 0).nx M) {j:Nat} (hj:j<n) (hD:D j=false) (J:∀i,(R j).mask.testBit i=true→D i=true) {v':Value}
  (q2:VR σ (Dd j).v v') (q3:HR σ (Dd j).g.blk.get w') (q4:Ext ρ σ (part (H j) (Dd j).fp) (Dd j).g w w'):Inv nt H Tm R n M ρ0 w0 (ins D j) σ (I9 tm (R j).dst v') w':=by
 obtain ⟨o,ho,g⟩:=X.good j hj;have be:(part (H j) (Dd j).fp).nx=(H j).nx:=by cases (Dd j).fp<;>rfl
 have b6:=X.lo hj;have bn:=X.hi hj;have b7:=X.mono (i:=0) (j:=j) (by omega) (by omega)
 have b8:=X.mono (i:=j+1) (j:=n) (by omega) (by omega)
 have al:∀b0 l,ρ b0=some l→(part (H j) (Dd j).fp).blk.get b0≠none→w0.heap.size≤l.cb∨∃b1 r,ρ0 b1=some r∧(H 0).blk.get b1≠none∧r.cb=l.cb:=by
  intro b0 l an bd;cases hy:(part (H j) (Dd j).fp).blk.get b0 with
  |none=>exact absurd hy bd
  |some y=>
   have hc:=X.agree I hM hj hD J (by rw [an];exact F4 _) hy
   rcases I.new b0 l an with h|⟨_,_,h⟩
   ·right;refine ⟨b0,l,h,?_,rfl⟩
    have ar:b0<(H 0).nx:=by
     rcases R2 b0 (H 0).nx with q|q
     ·exact q
     ·have ar:b0<(H j).nx:=by
       rcases R2 b0 (H j).nx with h|h
       ·exact h
       ·have:=Lo (X.wfAt (j:=j) (by omega)) (Dd j).fp b0 (by rw [be];exact h)
        rw [this] at hy;cases hy
      have:=X.le hj;rw [av b0 q (by omega)] at h;cases h
    exact X.cn_live (D:=D) ar (L1 n) (by rw [hc];exact F4 _)
   ·exact h
 refine ⟨?_,?_,?_,?_,X.after I hM hj hD J q3 q4,?_,I.le.trans q4.le,I.calm.trans q4.calm,?_,?_,?_⟩
 ·intro i hi;by_cases e:i=j
  ·omega
  ·exact I.sub i (by simpa [ins,e] using hi)
 ·intro i hi k hk;by_cases e:i=j
  ·subst e;have:=J k hk;by_cases e2:k=i
   ·simp [ins,e2]
   ·simpa [ins,e2] using this
  ·have:=I.closed i (by simpa [ins,e] using hi) k hk
   by_cases e2:k=j
   ·simp [ins,e2]
   ·simpa [ins,e2] using this
 ·unfold I9;split<;>simp [I.size]
 ·intro t x hx;by_cases hd:(R j).dst=some t
  ·rw [WO hj hd (fun i h1 h2 bs bv=>by
    have a:=X.apart h1 h2 (by
     cases hb:(R i).mask.testBit j with
     |false=>rfl
     |true=>rw [I.closed i bs j hb] at hD;cases hD)
    exact a.dst t hd bv)] at hx
   have hp:=g.put;rw [g.dst] at hd;rw [hd] at hp;simp only [EB] at hp;cases hb:Nat.blt t nt with
   |false=>rw [hb] at hp;cases hp
   |true=>
    rw [hb] at hp;simp only [C2] at hp;rw [←hp,T.get_set,if_pos rfl] at hx;cases hx;have ar:t<tm.size:=by rw [I.size];simpa [Nat.blt_eq] using hb
    rw [g.dst,hd];simpa [I9,Mf,ar] using q2
  ·rw [Xh hD hd] at hx;have:=(I.tmp t x hx).mono q4.le;unfold I9;split
   ·rename_i d b2;have b5:d≠t:=by rintro rfl;exact hd b2
    simpa [Mf,qs b5] using this
   ·exact this
 ·intro b h1 h2 hb;cases hs:σ b with
  |none=>exact absurd hs hb
  |some base=>
   rcases q4.new b base hs with h|⟨a1,a2,_⟩
   ·obtain ⟨i,hi,hr⟩:=I.free b h1 h2 (by rw [h];exact F4 _)
    refine ⟨i,?_,hr⟩;by_cases e:i=j
    ·simp [ins,e]
    ·simpa [ins,e] using hi
   ·exact ⟨j,by simp [ins],by omega,by rw [g.hi];exact a2⟩
 ·intro b base hs;rcases q4.new b base hs with h|⟨a1,a2,a3⟩
  ·exact I.new b base h
  ·right;rw [g.hi] at bn;refine ⟨by omega,by omega,?_⟩
   rcases a3 with a3|⟨b0,l,e1,e2,e3⟩
   ·left;have:=I.calm.size;omega
   ·rw [←e3];exact al b0 l e1 e2
 ·intro k hk bm
  rw [q4.kept k (by have:=I.calm.size;omega) (fun b0 l an bd=>by
   rcases al b0 l an bd with h|⟨b1,r,e1,e2,e3⟩
   ·omega
   ·rw [←e3];exact bm b1 r e1 e2)]
  exact I.kept k hk bm
 ·intro k arr hk;rcases q4.imm k arr hk with h|h|⟨b0,l,e1,e2,e3⟩
  ·exact I.imm k arr h
  ·right;left;have:=I.calm.size;omega
  ·right;rcases al b0 l e1 e2 with h|⟨b1,r,f1,f2,f3⟩
   ·left;omega
   ·right;exact ⟨b1,r,f1,f2,f3.trans e3⟩
end
end Go.AE

