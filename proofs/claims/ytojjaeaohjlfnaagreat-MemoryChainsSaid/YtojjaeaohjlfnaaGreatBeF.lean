/- What is proved here: an evaluator of the model's steps that the kernel can run, and that whatever it answers is what the model does (part 6 of 7: AeOrc, AeMove, AeLoop, AeRun4, AeQuick, AeFast, AeOK, AeSeg, AeTop). Conditions: those that each theorem states; they hold of no one program. -/
import Derived.Test.YtojjaeaohjlfnaaGreatBeE
import Derived.Eval
import Derived.KernelRfl
import Derived.Carry
import Derived.Handed
set_option linter.unusedVariables false
set_option linter.unusedSectionVars false
set_option linter.unusedSimpArgs false
namespace Go.AE
variable [Gl:AC]
theorem Dc:∀{a b:T Am},Nu a b=true→∀i x,a.get i=some x→b.get i=some x
 |.nil,_,_,i,x,c=>by simp [T.get_nil] at c
 |.node v l r,.nil,h,_,_,_=>by simp [Nu] at h
 |.node v l r,.node e j k,h,i,x,c=>by
  simp only [Nu,F4] at h;obtain ⟨⟨d,f⟩,g⟩:=h;simp only [T.get_eq,T.get0] at c ⊢;split at c
  ·subst c;simp only at d;cases e with
   |none=>simp at d
   |some y=>rw [QZ d]
  ·split at c
   ·rw [←T.get_eq] at c ⊢;exact Dc f _ _ c
   ·rw [←T.get_eq] at c ⊢;exact Dc g _ _ c
theorem V5 {b:Nat}:∀{l:List Nat},Mj b l=true→b∈l
 |[],h=>by simp [Mj] at h
 |c::r,h=>by
  simp only [Mj,vy] at h;rcases h with h|h
  ·rw [L2 h];simp
  ·simp [V5 h]
theorem LF {nx:Nat} {wr:List Nat}:∀{l:List Nat},W1 nx wr l=true→∀b∈l,b<nx→b∈wr
 |[],_,b,a,_=>by cases a
 |c::r,h,b,a,d=>by
  simp only [W1,F4,vy] at h;simp only [gk] at a;rcases a with rfl|a
  ·rcases h.1 with e|e
   ·have:=hP e;omega
   ·exact V5 e
  ·exact LF h.2 b a d
def Orc.Valid (P:Program) (F:Nat→D→D) (e:Orc):Prop:=
 ∀[U:Unk],U.K=(Env.of P).kinds→U.V.fn=F→∀(r:Ren) (w:World) (l:List Value),VL r e.args l→HR r e.part.get w→WF {blk:=e.part,nx:=e.nx,log:=[]}→AX r e.nx e.nx'→
  ∀(c0:Frame) (base:List Frame),∃t J I g,BJ P (lone (Frame.enter P e.f l.toArray .normal) (c0::base) w) c0 base e.ok J I∧VR t e.v J∧HR t g.blk.get I∧
   Ext r t {blk:=e.part,nx:=e.nx,log:=[]} g w I∧(∀b x,e.out.get b=some x→g.blk.get b=some x)∧g.nx=e.nx'∧(∀b∈g.log,b<e.nx→b∈e.wr)
structure Ad (E:Env) (F:Nat→D→D):Prop where
 orc:∀e∈E.orc,e.Valid E.P F
 sms:∀s∈E.sms,s.Valid E.P F
variable [U:Unk]
theorem Mw {M E:Ren} {h g:Aa} {w w':World} {p out:T Am} {nx':Nat} {wr:List Nat} (z:HR M h.blk.get w) (F:WF h) (B:∀b x,p.get b=some x→h.blk.get b=some x)
  (G:AX M h.nx nx') (N:HR E g.blk.get w') (o:Ext M E {blk:=p,nx:=h.nx,log:=[]} g w w') (ho:∀b x,out.get b=some x→g.blk.get b=some x) (hn:g.nx=nx') (hl:∀b∈g.log,b<h.nx→b∈wr) :
  HR E (AY h {blk:=out,nx:=nx',log:=wr}).blk.get w'∧Ext M E h (AY h {blk:=out,nx:=nx',log:=wr}) w w':=by
 have r:h.nx≤nx':=by have:=o.nx;rw [hn] at this;exact this
 have s:∀b,p.get b≠none→h.blk.get b≠none:=by
  intro b d;cases t:p.get b with
  |none=>exact absurd t d
  |some x=>rw [B b x t];exact F0 _
 have cls:∀b x,(AY h {blk:=out,nx:=nx',log:=wr}).blk.get b=some x→g.blk.get b=some x∨(b<h.nx∧p.get b=none∧h.blk.get b=some x):=by
  intro b x f;by_cases H:b<h.nx
  ·by_cases I:b∈BF h.nx wr
   ·rcases Hl (h:=h) (g:={blk:=out,nx:=nx',log:=wr}) I with q|⟨_,q⟩
    ·rw [q] at f;cases f
    ·rw [q] at f;exact .inl (ho b x f)
   ·rw [CO (h:=h) (g:={blk:=out,nx:=nx',log:=wr}) r I (.inl H)] at f;cases t:p.get b with
    |none=>exact .inr ⟨H,rfl,f⟩
    |some y=>
     have e:=B b y t;rw [f] at e;cases e;obtain ⟨l,ab,ac⟩:=o.log;have P:g.log=l:=by rw [ab];exact Aek l
     refine .inl ((ac b (fun e=>I (Cu.2 ⟨hl b (by rw [P];exact e) H,H⟩)) (.inl H)).trans t)
  ·by_cases I:b<nx'
   ·rw [Ib (h:=h) (g:={blk:=out,nx:=nx',log:=wr}) F r (by omega) I] at f
    exact .inl (ho b x f)
   ·rw [Hs (h:=h) (g:={blk:=out,nx:=nx',log:=wr}) F r b (by show nx'≤b;omega)] at f;cases f
 have u:∀b base,E b=some base→b<h.nx→M b=some base:=by
  intro b base d A;rcases o.new b base d with e|⟨e,_⟩
  ·exact e
  ·exact absurd e (by show ¬h.nx≤b;omega)
 have LR:∀b i base a x J,E b=some base→E i=some a→g.blk.get b=some x→i<h.nx→p.get i=none→h.blk.get i=some J→base.cb≠a.cb:=by
  intro b i base a x J d j f A t v;have C:=u i a j A;have Q:h.blk.get i≠none:=by rw [v];exact F0 _
  have R:∀m c,M m=some c→p.get m≠none→c.cb≠a.cb:=fun m c h0 S=>
   z.apart m i c a (fun e=>by subst e;exact S t) h0 C (s m S) Q
  rcases o.new b base d with e|⟨_,_,e⟩
  ·rcases o.live b (by rw [f];exact F0 _) with l|⟨l1,l2⟩
   ·exact R b base e l
   ·have:=G b l1 (by rw [←hn];exact l2)
    rw [this] at e;cases e
  ·rcases e with e|⟨m,c,V,O,W⟩
   ·have:=z.lt i a C;omega
   ·rw [←W];exact R m c V O
 refine ⟨⟨N.lt,fun b base x d f=>?_,fun b i base a X d j H I=>?_,N.imm,fun k arr b base D d hl=>?_,N.glob⟩,⟨o.le,r,fun b base d=>?_,o.calm,fun k D ad=>o.kept k D (fun b base d t=>ad b base d (s b t)),⟨BF h.nx wr,rfl,fun b d ho=>CO (h:=h) (g:={blk:=out,nx:=nx',log:=wr}) r d ho⟩,fun b d=>G5 (h:=h) (g:={blk:=out,nx:=nx',log:=wr}) F r d,fun k arr D=>(o.imm k arr D).imp id (fun e=>e.imp id (fun ⟨m,c,x1,x2,x3⟩=>⟨m,c,x1,s m x2,x3⟩))⟩⟩
 ·rcases cls b x f with q|⟨A,t,hh⟩
  ·exact N.blk b base x d q
  ·have n:=u b base d A;have D:=o.kept base.cb (z.lt b base n) (fun i a j Y=>z.apart i b a base (fun e=>by subst e;exact Y t) j n (s i Y) (by rw [hh];exact F0 _))
   rw [D];exact (z.blk b base x n hh).mono o.le
 ·cases f:(AY h {blk:=out,nx:=nx',log:=wr}).blk.get b with
  |none=>exact absurd f H
  |some x=>
   cases v:(AY h {blk:=out,nx:=nx',log:=wr}).blk.get i with
   |none=>exact absurd v I
   |some J=>
    rcases cls b x f with q|⟨a1,a2,a3⟩
    ·rcases cls i J v with q'|⟨K,Z,L⟩
     ·exact N.apart b i base a X d j (by rw [q];exact F0 _) (by rw [q'];exact F0 _)
     ·exact LR b i base a x J d j q K Z L
    ·rcases cls i J v with q'|⟨K,Z,L⟩
     ·exact fun e=>LR i b a base J x j d q' a1 a2 a3 e.symm
     ·exact z.apart b i base a X (u b base d a1) (u i a j K) (by rw [a3];exact F0 _) (by rw [L];exact F0 _)
 ·cases f:(AY h {blk:=out,nx:=nx',log:=wr}).blk.get b with
  |none=>exact absurd f hl
  |some x=>
   rcases cls b x f with q|⟨a1,a2,a3⟩
   ·exact N.off k arr b base D d (by rw [q];exact F0 _)
   ·have n:=u b base d a1;have aa:h.blk.get b≠none:=by rw [a3];exact F0 _
    rcases o.imm k arr D with e|e|⟨m,c,V,O,W⟩
    ·exact z.off k arr b base e n aa
    ·have:=z.lt b base n;omega
    ·rw [←W];exact (z.apart m b c base (fun e=>by subst e;exact O a2) V n (s m O) aa).symm
 ·rcases o.new b base d with e|⟨V,O,W⟩
  ·exact .inl e
  ·exact .inr ⟨V,by show b<nx';rw [←hn];exact O,W.imp id (fun ⟨m,c,x1,x2,x3⟩=>⟨m,c,x1,s m x2,x3⟩)⟩
theorem Ext.skip {ρ J:Ren} {h g:Aa} {n:Nat} {w w':World} (t:h.nx≤n) (q:Ext ρ J {h with nx:=n} g w w'):Ext ρ J h g w w':=by
 obtain ⟨l,hl,I⟩:=q.log;have hq:n≤g.nx:=q.nx;exact ⟨q.le,l8 t hq,fun b base r=>(q.new b base r).imp id (fun ⟨a,c,d⟩=>⟨l8 t a,c,d⟩),q.calm,q.kept,⟨l,hl,fun b r ho=>I b r (ho.imp (fun x=>Nat.lt_of_lt_of_le x t) id)⟩,fun b r=>(q.live b r).imp id (fun ⟨a,c⟩=>⟨l8 t a,c⟩),q.imm⟩
theorem Qg {P:Program} {F:Nat→D→D} (C:U.V.fn=F) {f:FuncId} {args:List AV} {a:List Value} {h g:Aa} {ok:Bool} {v:AV} {n:Ren} {w:World}:∀{l:List Orc},(∀e∈l,e.Valid P F)→U.K=(Env.of P).kinds→NP l f args h=some (ok,v,g)→VL n args a→HR n h.blk.get w→WF h→AX n h.nx g.nx→
  ∀(c0:Frame) (base:List Frame),∃p u s,BJ P (lone (Frame.enter P f a.toArray .normal) (c0::base) w) c0 base ok u s∧VR p v u∧HR p g.blk.get s∧Ext n p h g w s
 |[],_,_,j,_,_,_,_=>by simp [NP] at j
 |e::r,hO,hK,j,E,y,t,d=>by
  simp only [NP] at j;split at j
  ·rename_i o;simp only [F4] at o;obtain ⟨⟨⟨z,k⟩,G⟩,A⟩:=o;have H:=L2 z
   have B:h.nx≤e.nx:=by
    simp only [vy,F4] at k;rcases k with k|k
    ·exact Nat.le_of_eq (L2 k).symm
    ·exact hP k.2
   have I:=Fk _ _ G;subst H;subst I;cases j;intro c0 base;have i:AX n h.nx e.nx':=d;have c:AX n e.nx e.nx':=fun b z k=>i b (l8 B z) k
   have m:WF {h with nx:=e.nx}:=fun b o=>t b (l8 B o)
   obtain ⟨p,u,s,M,a1,a2,a3,a4,a5,a6,a7⟩:=hO e (by simp) hK C n w a E (y.weaken (fun b x _ j=>Dc A b x j)) (fun b o=>by
    show e.part.get b=none;cases J:e.part.get b with
    |none=>rfl
    |some x=>
     have q:=Dc A b x J;rw [m b o] at q;cases q) c c0 base
   obtain ⟨m1,m2⟩:=Mw (h:={h with nx:=e.nx}) y m (Dc A) c a3 a4 a5 a6 a7
   exact ⟨p,u,s,a1,a2,m1,m2.skip B⟩
  ·exact Qg C (fun e L=>hO e (by simp [L])) hK j E y t d
section
variable {E:Env} (hE:OK E) (hO:Ad E U.V.fn) {ρ:Ren} {w:World} {c:Frame} {ccs:List Frame} {s s':AS}
include hE hO
omit hE hO in
theorem ep {x:AV} {v:Value} (hx:VR ρ x v):VR ρ (aN x) v:=by
 unfold aN;split
 ·rename_i x;split
  ·rename_i l b hl;have h:=PO U.ok hl;rw [JU] at h;unfold strEq at h;simp only [F4] at h;have h1:=L2 h.1;have h2:=L2 h.2;cases hx;rw [←h1,←h2];exact .str _
  ·exact hx
 ·exact hx
omit hE hO in
theorem YP {l:List AV} {l':List Value} (h:VL ρ l l'):VL ρ (l.map aN) l':=by
 refine ⟨by simp [h.1],fun i a v ha hv=>?_⟩
 rw [sd] at ha;cases hl:l[i]? with
 |none=>rw [hl] at ha;cases ha
 |some x=>rw [hl] at ha;cases ha;exact ep (h.2 i x v hl hv)
theorem Ev {f:FuncId} {args:List AV} {j:List Value} {h g:Aa} {ok:Bool} {v:AV} (hx:KC E f args h=some (ok,v,g)) (ha:VL ρ args j) (n:HR ρ h.blk.get w) (k:WF h) (d:AX ρ h.nx g.nx) :
  ∀(c0:Frame) (base:List Frame),∃o u p,BJ E.P (lone (Frame.enter E.P f j.toArray .normal) (c0::base) w) c0 base ok u p∧VR o v u∧HR o g.blk.get p∧Ext ρ o h g w p:=by
 unfold KC at hx;split at hx
 ·rename_i l hl;have y:=hE.ox _ _ hl;split at hx
  ·rename_i r q;cases hx;exact Qg rfl (fun e t=>hO.orc e (y e t)) hE.kd q ha n k d
  ·split at hx
   ·rename_i z m;cases hx;split at m
    ·exact Qg rfl (fun e t=>hO.orc e (y e t)) hE.kd m (YP ha) n k d
    ·cases m
   ·split at hx
    ·rename_i z m;cases hx;exact Jd hE rfl hO.sms m ha n k d
    ·cases hx
 ·split at hx
  ·rename_i z m;cases hx;exact Jd hE rfl hO.sms m ha n k d
  ·cases hx
omit hE hO in
theorem ZG {h:Aa} {a:AV} {v:Value} (ha:VR ρ a v):VR ρ (US h a) v:=by
 unfold US;split
 ·rename_i b n es;split
  ·cases ha with
   |slice _ _ _ _ cap base hb hc hz=>exact .asl b es (.c n) (.bc false) cap base hb (Int.natCast_nonneg _) (by simpa [Ac,Ab,D.toInt] using hc) (by omega) rfl
   |sliceEnd _ _ _ a=>exact .aslEnd b es (.c (0:Nat)) (.bc false) (some a) rfl rfl
  ·exact ha
 ·exact ha
omit hE hO in
theorem Lw {h:Aa} {f:AF} {c:Frame} (hf:FrR ρ f c):FrR ρ (Wn h f) c:=by
 unfold Wn;split
 ·refine ⟨hf.fn,⟨hf.tm.size,fun i x hx=>?_⟩,hf.todo,hf.defers,hf.mode,hf.kind,hf.round⟩
  have hx:(f.tmps.mapA (US h)).get i=some x:=hx;rw [T.get_mapA] at hx;cases hg:f.tmps.get i with
  |none=>rw [hg] at hx;cases hx
  |some y=>
   rw [hg] at hx;cases hx;exact ZG (hf.tm.get i y hg)
 ·exact hf
omit hO in
theorem YO (hsr:SR ρ s c ccs w) (hm:s.fr.mode=.run) {all:Array Oper} {o:Oper} {r:List Oper} {k:List AI} (ht:s.fr.todo=.ops all (o::r)::k) (hx:ZM E s all o r=some s') (base:List Frame) :
  ∃σ c' ccs' w',Steps E.P (lone c (ccs++base) w) (lone c' (ccs'++base) w')∧SR σ s' c' ccs' w'∧Ext ρ σ s.h s'.h w w':=by
 unfold ZM at hx;split at hx
 ·rename_i t x lo o2 r2 d hop hdst;split at hx
  ·rename_i cc hop2;split at hx
   ·rename_i t1 d' hcal hats hargs;split at hx
    ·rename_i b es n nl kd l hex hel;split at hx
     ·rename_i e e1 e2 y hd hd1 hb;split at hx
      ·rename_i z ks hz hk;split at hx
       ·rename_i hc;split at hx
        ·rename_i fr1 hw1 hf1;split at hx
         ·rename_i fr2 hw2 hf2;cases hx;obtain ⟨c1,hc⟩:=Au hc;obtain ⟨c2,hc⟩:=Au hc;obtain ⟨c3,hc⟩:=Au hc;obtain ⟨c4,hc⟩:=Au hc;obtain ⟨c5,hc⟩:=Au hc;obtain ⟨c6,hc⟩:=Au hc;obtain ⟨c7,hc⟩:=Au hc;obtain ⟨c8,c9⟩:=Au hc;have q1:=Ax c1;have q2:=Ax c2;have q3:=Ax c3;subst q1 q2 q3;have htodo:=hsr.fr.todo;rw [ht] at htodo;obtain ⟨i,idx,k',ee,ho,hm',hkk⟩:=htodo.ops_inv;have hmode:=hsr.fr.mode;rw [hm] at hmode
          have hcm:c.mode=.run:=by
           generalize c.mode=x at hmode;cases hmode;rfl
          have ht':=hsr.fr.tm
          have hev:EvR ρ s.fr.tmps c.eval:=by
           intro x;have:=Js ht' x;cases x<;>exact this
          have hvx:=hev x;rw [hex] at hvx;have hvl:=Cl (hev lo) hel;obtain ⟨v,w',r1,r2',r3,r4⟩:=dT hE hsr.h (ty:=o2.type) hd hd1 hz hk (Ax c4) (Ax c5) c6 hvx hb c7 c8 hvl c9;have hnd:∀cl,o.op≠.defer cl:=by intro cl e;rw [hop] at e;cases e
          have hnd2:∀cl,o2.op≠.defer cl:=by intro cl e;rw [hop2] at e;cases e
          have st1:step E.P (lone c (ccs++base) w)=.next (lone (c.finish v) (ccs++base) w):=UH hcm ee ho (Cd ht' hw1) (.inr hnd) (.inl (by simp [execOp,hop,r1]))
          have fr1ok:=BH hsr.fr hf1 (VR.top v)
          have ef:c.finish v={c with tmps:=Jc c.tmps o.dst v,todo:=.inRegion all idx::k'}:=by
           simp only [Frame.finish,ee,ho,Option.bind_some,Jc];cases o.dst<;>rfl
          have fm:fr1.mode=.run∧fr1.todo=.ops all (o2::r2)::k∧d<s.fr.nt:=by
           unfold B1 at hf1;rw [ht] at hf1;simp only [hdst,Ey] at hf1;split at hf1
           ·rename_i t' hp;cases hf1;split at hp
            ·rename_i hlt;exact ⟨hm,rfl,Ik hlt⟩
            ·cases hp
           ·cases hf1
          obtain ⟨fm1,fm2,fm3⟩:=fm;have htodo2:=fr1ok.todo;rw [fm2] at htodo2;obtain ⟨i2,idx2,k2',ee2,ho2,_,_⟩:=htodo2.ops_inv;have hcm2:(c.finish v).mode=.run:=by rw [ef];exact hcm
          have hev2:(c.finish v).eval (.tmp d)=v:=by
           show (c.finish v).tmps.getD d Go.undef=v;rw [ef];show (Jc c.tmps o.dst v).getD d Go.undef=v;rw [hdst];have:d<c.tmps.size:=by rw [ht'.size];exact fm3
           simp [Jc,L1,this]
          have hrun2:(execOp (c.finish v).eval o2).run E.P w=.ok (.value (.tuple #[])) w':=by
           have a1:cc.argTypes = #[t1]:=by rw [←Array.toList_inj];exact hats
           have hmap:(cc.args.map (c.finish v).eval)=(cc.args.toList.map (c.finish v).eval).toArray:=by apply Array.ext';simp
           have ex:∃cs,execOp (c.finish v).eval o2=builtin .clear cc.argTypes o2.type cs (cc.args.toList.map (c.finish v).eval).toArray:=
            ⟨_,by unfold execOp;rw [hop2];simp only [resolve,hcal,pure_bind,invoke,hmap];rfl⟩
           obtain ⟨cs,ex⟩:=ex;rw [ex,a1,hargs];simp only [Ad9,List.map_nil,hev2];simp [builtin,r2']
          have st2:step E.P (lone (c.finish v) (ccs++base) w)=.next (lone ((c.finish v).finish (.tuple #[])) (ccs++base) w'):=UH hcm2 ee2 ho2 (Cd fr1ok.tm hw2) (.inr hnd2) (.inl hrun2);have fr2ok:=BH fr1ok hf2 (VR.top (.tuple #[]));exact ⟨ρ,(c.finish v).finish (.tuple #[]),ccs,w',Steps.head st1 (Steps.one st2),⟨fr2ok,hsr.cs,r3⟩,r4⟩
         ·cases hx
        ·cases hx
       ·cases hx
      ·cases hx
     ·cases hx
    ·cases hx
   ·cases hx
  ·cases hx
 ·cases hx
omit hE hO in
theorem R6 {fr:AF} {c:Frame} {v:AV} {v':Value} (hf:FrR ρ fr c) (hm:c.mode=.run) (hv:VR ρ v v'):FrR ρ {fr with mode:=.panic [(v,false)]} (c.raise [{v:=v',recovered:=false}]):=by
 have e:c.raise [{v:=v',recovered:=false}]={c with mode:=.panicking [{v:=v',recovered:=false}]}:=by simp [Frame.raise,hm]
 rw [e];exact ⟨hf.fn,hf.tm,hf.todo,hf.defers,.panic _ _ ⟨hv,rfl,rfl,trivial⟩,hf.kind,hf.round⟩
omit hE hO in
theorem LI {f:Operand} {params:List Tmp} {assign body:Code} {k:List AI} {g:FuncId} {args:List AV} {h3:Aa} {fr':AF} (hx:Ed E s f params assign body k=some (g,args,h3,fr')):fr'.mode=s.fr.mode:=by
 unfold Ed at hx;split at hx
 ·split at hx
  ·split at hx
   ·cases hx;rfl
   ·cases hx
  ·cases hx
 ·cases hx
theorem Z4 (hsr:SR ρ s c ccs w) (F:WF s.h) (hx:Zq E s=some s') (j:AX ρ s.h.nx s'.h.nx) (base:List Frame) :
  ∃σ c' ccs' w',Steps E.P (lone c (ccs++base) w) (lone c' (ccs'++base) w')∧SR σ s' c' ccs' w'∧Ext ρ σ s.h s'.h w w':=by
 unfold Zq at hx;split at hx
 ·cases hx
 ·split at hx
  ·rename_i hm;split at hx
   ·rename_i all o r k ht;split at hx
    ·rename_i X M;cases hx;exact YO hE hsr hm ht M base
    split at hx
    ·rename_i S;split at hx
     ·rename_i W;split at hx
      ·rename_i g args h1 hop;split at hx
       ·rename_i v h2 m;split at hx
        ·rename_i fr u;cases hx;have htodo:=hsr.fr.todo;rw [ht] at htodo;obtain ⟨i,idx,k',e,ho,hm',hk⟩:=htodo.ops_inv;have hmode:=hsr.fr.mode;rw [hm] at hmode
         have hcm:c.mode=.run:=by
          generalize c.mode=x at hmode;cases hmode;rfl
         have ht':=hsr.fr.tm
         have hev:EvR ρ s.fr.tmps c.eval:=by
          intro x;have:=Js ht' x;cases x<;>exact this
         have p:=Ii hE hsr.h hev o;rw [hop] at p;obtain ⟨rfl,q,ha,A⟩:=p
         have hnd:∀cl,o.op≠.defer cl:=by
          intro cl e;rw [e] at hop;simp only [aop] at hop;rcases DB s.fr.tmps cl s.h with ⟨d,L⟩|⟨y,L⟩<;>(rw [L] at hop;cases hop)
         obtain ⟨σ,v',w',q1,q2,q3,B⟩:=Ev hE hO m ha hsr.h F j c (ccs++base);have H:=MD (cs:=ccs++base) (P:=E.P) hcm e ho (Cd ht' W) (.inr hnd) A;exact ⟨σ,c.finish v',ccs,w',Steps.head H q1,⟨Lw (BH (hsr.fr.mono B.le) u q2),hsr.cs.mono B.le,q3⟩,B⟩
        ·cases hx
       ·rename_i v h2 m;cases hx;have htodo:=hsr.fr.todo;rw [ht] at htodo;obtain ⟨i,idx,k',e,ho,hm',hk⟩:=htodo.ops_inv;have hmode:=hsr.fr.mode;rw [hm] at hmode
        have hcm:c.mode=.run:=by
         generalize c.mode=x at hmode;cases hmode;rfl
        have ht':=hsr.fr.tm
        have hev:EvR ρ s.fr.tmps c.eval:=by
         intro x;have:=Js ht' x;cases x<;>exact this
        have p:=Ii hE hsr.h hev o;rw [hop] at p;obtain ⟨rfl,q,ha,A⟩:=p
        have hnd:∀cl,o.op≠.defer cl:=by
         intro cl e;rw [e] at hop;simp only [aop] at hop;rcases DB s.fr.tmps cl s.h with ⟨d,L⟩|⟨y,L⟩<;>(rw [L] at hop;cases hop)
        obtain ⟨σ,v',w',q1,q2,q3,B⟩:=Ev hE hO m ha hsr.h F j c (ccs++base);have H:=MD (cs:=ccs++base) (P:=E.P) hcm e ho (Cd ht' W) (.inr hnd) A;exact ⟨σ,c.raise [{v:=v',recovered:=false}],ccs,w',Steps.head H q1,⟨Lw (R6 (hsr.fr.mono B.le) hcm q2),hsr.cs.mono B.le,q3⟩,B⟩
       ·cases hx
      ·cases hx
     ·cases hx
    ·cases hx
   ·
    rename_i fo params assign body k ht;split at hx
    ·rename_i g args h3 fr' I;split at hx
     ·rename_i v h2 m;split at hx
      ·rename_i fr C u;cases hx;have htodo:=hsr.fr.todo;rw [ht] at htodo;have hmode:=hsr.fr.mode;rw [hm] at hmode
       have hcm:c.mode=.run:=by
        generalize c.mode=x at hmode;cases hmode;rfl
       generalize J:c.todo=td at htodo;cases htodo with
       |cons K hk=>
        cases K;have N:h3.nx≤h2.nx:=C8 C;obtain ⟨σ,c',q,w1,q1,q2,q3,B,G⟩:=IA hE hsr hcm hk J I (fun b O Y=>j b O (by show b<h2.nx;omega)) base
        obtain ⟨Q,v',w',r1,r2,r3,r4⟩:=Ev hE hO m q2 B (G.wf F) (G.free j) c' (ccs++base);exact ⟨Q,c'.finish v',ccs,w',Steps.head q1 r1,⟨Lw (BH (q3.mono r4.le) u r2),(hsr.cs.mono G.le).mono r4.le,r3⟩,G.trans r4 j⟩
      ·cases hx
     ·rename_i v h2 m;split at hx
      ·rename_i C;cases hx;have htodo:=hsr.fr.todo;rw [ht] at htodo;have hmode:=hsr.fr.mode;rw [hm] at hmode
       have hcm:c.mode=.run:=by
        generalize c.mode=x at hmode;cases hmode;rfl
       generalize J:c.todo=td at htodo;cases htodo with
       |cons K hk=>
        cases K;have N:h3.nx≤h2.nx:=C8 C;obtain ⟨σ,c',q,w1,q1,q2,q3,B,G⟩:=IA hE hsr hcm hk J I (fun b O Y=>j b O (by show b<h2.nx;omega)) base
        obtain ⟨Q,v',w',r1,r2,r3,r4⟩:=Ev hE hO m q2 B (G.wf F) (G.free j) c' (ccs++base)
        have R:c'.mode=.run:=by
         have h1:=q3.mode;have h2:fr'.mode=.run:=by rw [LI I,hm]
         rw [h2] at h1;generalize c'.mode=x at h1;cases h1;rfl
        exact ⟨Q,c'.raise [{v:=v',recovered:=false}],ccs,w',Steps.head q1 r1,⟨Lw (R6 (q3.mono r4.le) R r2),(hsr.cs.mono G.le).mono r4.le,r3⟩,G.trans r4 j⟩
      ·cases hx
     ·cases hx
    ·cases hx
   ·cases hx
  ·cases hx
omit hE hO in
theorem Qb {ρ:Ren} {nt:Nat} {t:T AV} {a:Array Value} (h:TR ρ nt t a):∀{l:List Tmp} {i:Tmp} {v:AV},ZQ t l=some (i,v)→TR ρ nt (t.set i v) a
 |[],i,v,hx=>by cases hx
 |c::r,i,v,hx=>by
  unfold ZQ at hx;split at hx
  ·rename_i b nl hg;split at hx
   ·exact Qb h hx
   ·cases hx;refine ⟨h.size,fun j x hj=>?_⟩
    rw [T.get_set] at hj;by_cases e:c=j
    ·subst e;rw [if_pos rfl] at hj;cases hj;exact O2 (h.get c _ hg)
    ·rw [if_neg e] at hj;exact h.get j x hj
  ·exact Qb h hx
theorem Qz (hsr:SR ρ s c ccs w) (q:WF s.h) (hx:Wl E s=some s') (m:AX ρ s.h.nx s'.h.nx) (base:List Frame) :
  ∃σ c' ccs' w',Steps E.P (lone c (ccs++base) w) (lone c' (ccs'++base) w')∧SR σ s' c' ccs' w'∧Ext ρ σ s.h s'.h w w':=by
 unfold Wl at hx;split at hx
 ·rename_i u p;cases hx;unfold Abe at p;split at p
  ·split at p
   ·rename_i i v hl;cases p;exact ⟨ρ,c,ccs,w,Steps.refl _ _,⟨⟨hsr.fr.fn,Qb hsr.fr.tm hl,hsr.fr.todo,hsr.fr.defers,hsr.fr.mode,hsr.fr.kind,hsr.fr.round⟩,hsr.cs,hsr.h⟩,Ext.refl _ _ _⟩
   ·cases p
  ·cases p
 ·exact Z4 hE hO hsr q hx m base
end
end Go.AE
namespace Go.AE
variable [Gl:AC]
mutual
def mvA (d:Nat):AV→AV
 |.bool b=>.bool b
 |.int k n=>.int k n
 |.str l b=>.str l b
 |.ptr0=>.ptr0
 |.ptr b o=>.ptr (b+d) o
 |.slice0=>.slice0
 |.slice b o n c=>.slice (b+d) o n c
 |.map0=>.map0
 |.map b=>.map (b+d)
 |.nilFunc=>.nilFunc
 |.nilIface=>.nilIface
 |.iface t v=>.iface t (mvA d v)
 |.agg l=>.agg (mvL d l)
 |.tuple l=>.tuple (mvL d l)
 |_=>.top
def mvL (d:Nat):List AV→List AV
 |[]=>[]
 |a::r=>mvA d a::mvL d r
end
def fZ (d:Nat):List AA→List AA
 |[]=>[]
 |e::r=>{key:=mvA d e.key,val:=mvA d e.val,born:=e.born}::fZ d r
def mvK (d:Nat):Am→Option Am
 |.cells n c=>some (.cells n (c.mapA (mvA d)))
 |.map a k=>some (.map (fZ d a) k)
 |_=>none
def T.keys {t:Type} (m s:Nat):T t→List Nat
 |.nil=>[]
 |.node v l r=>(match v with|some _=>[s]|none=>[])++(l.keys (2*m) (s+m)++r.keys (2*m) (s+2*m))
def mvT (d:Nat) (t:T Am):List Nat→T Am
 |[]=>.nil
 |k::r=>match t.get k with
  |some x=>match mvK d x with
   |some y=>(mvT d t r).set (k+d) y
   |none=>mvT d t r
  |none=>mvT d t r
def eI:AV→Bool
 |.bool _=>true
 |.int _ _=>true
 |.str _ _=>true
 |_=>false
def Orc.canMove (e:Orc):Bool:=e.args.all eI&&(match e.part with|.nil=>true|_=>false)
def Orc.move (e:Orc) (d:Nat):Orc:={f:=e.f,args:=e.args,part:=.nil,nx:=e.nx+d,ok:=e.ok,v:=mvA d e.v,out:=mvT d e.out (e.out.keys 1 0),nx':=e.nx'+d,wr:=[]}
theorem Qc (d:Nat):∀l:List AV,(mvL d l).length=l.length
 |[]=>rfl
 |a::r=>by simp [mvL,Qc d r]
theorem Vz (d:Nat):∀(l:List AV) (i:Nat),(mvL d l)[i]?=l[i]?.map (mvA d)
 |[],i=>by simp [mvL]
 |a::r,0=>by simp [mvL]
 |a::r,i+1=>by simp [mvL,Vz d r i]
section
variable [U:Unk]
theorem VR.move {ρ J:Ren} {d:Nat} (h:∀b base,ρ b=some base→J (b+d)=some base) {a:AV} {v:Value} (k:VR ρ a v):VR J (mvA d a) v:=by
 have ls:∀(l:List AV) (l':List Value),(∀(i:Nat) (a:AV) (v:Value),l[i]?=some a→l'[i]?=some v→VR J (mvA d a) v)→∀(i:Nat) (a:AV) (v:Value),(mvL d l)[i]?=some a→l'[i]?=some v→VR J a v:=by
  intro l l' ih i a v r hv;rw [Vz] at r;cases hl:l[i]? with
  |none=>rw [hl] at r;cases r
  |some x=>rw [hl] at r;cases r;exact ih i x v hl hv
 induction k with
 |top v=>exact .top v
 |bool b=>exact .bool b
 |int k n=>exact .int k n
 |str s=>exact .str s
 |ptr0=>exact .ptr0
 |ptr b off base I=>exact .ptr _ off base (h _ _ I)
 |slice0=>exact .slice0
 |slice b off n es cap base I hc hz=>exact .slice _ off n es cap base (h _ _ I) hc hz
 |sliceEnd b off es a=>exact .sliceEnd _ off es a
 |map0=>exact .map0
 |map b base I=>exact .map _ base (h _ _ I)
 |func=>exact .top _
 |nilFunc=>exact .nilFunc
 |iface t a v _ ih=>exact .iface t _ v ih
 |nilIface=>exact .nilIface
 |agg l l' h1 h2 ih=>exact .agg _ l' (by rw [Qc,h1]) (ls l l' ih)
 |tuple l l' h1 h2 ih=>exact .tuple _ l' (by rw [Qc,h1]) (ls l l' ih)
 |sb=>exact .top _
 |si=>exact .top _
 |ss=>exact .top _
 |dat=>exact .top _
 |dptr=>exact .top _
 |asl=>exact .top _
 |aslEnd=>exact .top _
 |eslc=>exact .top _
 |aptr=>exact .top _
 |nmap=>exact .top _
 |nmap0=>exact .top _
 |stamp=>exact .top _
 |glob=>exact .top _
 |fsl=>exact .top _
theorem ER.move {ρ r:Ren} {d:Nat} (h:∀b base,ρ b=some base→r (b+d)=some base):∀{l:List AA} {l':List MapEntry},ER ρ l l'→ER r (fZ d l) l'
 |[],[],_=>trivial
 |_::_,_::_,⟨t,I,J,h4⟩=>⟨t.move h,I.move h,J,ER.move h h4⟩
 |[],_::_,h=>h.elim
 |_::_,[],h=>h.elim
theorem BR.move {ρ σ:Ren} {d:Nat} (h:∀b base,ρ b=some base→σ (b+d)=some base) {x y:Am} {base:Cr} {o:Option Obj} (k:BR ρ x base o) (l:mvK d x=some y):BR σ y base o:=by
 cases x with
 |cells n c=>
  cases l;obtain ⟨t,e,fz,I,J,h3,h4,h5⟩:=k;refine ⟨t,e,fz,I,J,h3,h4,fun i a hi r=>?_⟩
  rw [T.get_mapA] at r;cases hc:c.get i with
  |none=>rw [hc] at r;cases r
  |some a0=>
   rw [hc] at r;cases r;obtain ⟨v,hv,hr⟩:=h5 i a0 hi hc;exact ⟨v,hv,hr.move h⟩
 |map es al=>cases l;obtain ⟨an,I,J⟩:=k;exact ⟨an,I,J.move h⟩
 |arr=>cases l
 |hole=>cases l
 |dmap=>cases l
 |dmapS=>cases l
 |loop=>cases l
 |deferred=>cases l
 |mapIter=>cases l
 |strIter=>cases l
omit U in
theorem en {d:Nat} {t:T Am}:∀{l:List Nat} {b:Nat} {y:Am},(mvT d t l).get b=some y→∃k x,b=k+d∧t.get k=some x∧mvK d x=some y:=by
 intro l
 induction l with
 |nil=>intro b y h;rw [mvT,T.get_nil] at h;cases h
 |cons k r ih=>
  intro b y h;unfold mvT at h;split at h
  ·rename_i x hx;split at h
   ·rename_i z hz;rw [T.get_set] at h;by_cases hb:k+d=b
    ·rw [if_pos hb] at h;cases h;exact ⟨k,x,hb.symm,hx,hz⟩
    ·rw [if_neg hb] at h;exact ih h
   ·exact ih h
  ·exact ih h
theorem ZY {c e:Ren} {a:AV} {v:Value} (h:eI a=true) (k:VR c a v):VR e a v:=by
 cases k<;>first | (cases h;done)|constructor
end
theorem Orc.Valid.move {P:Program} {F:Nat→D→D} {e:Orc} (hv:e.Valid P F) (hc:e.canMove=true) (d:Nat):(e.move d).Valid P F:=by
 intro U hK hF ρ w al ha hr cd av c0 base;unfold Orc.canMove at hc;simp only [F4] at hc;obtain ⟨b5,be⟩:=hc
 have hp:e.part=.nil:=by
  split at be
  ·assumption
  ·cases be
 have bm:∀b,e.part.get b=none:=fun b=>by rw [hp];exact T.get_nil b
 have b6:VL ⟨fun _=>none,ρ.imm⟩ e.args al:=⟨ha.1,fun i a v I J=>ZY (List.all_eq_true.1 b5 a (rc I)) (ha.2 i a v I J)⟩
 have b7:HR ⟨fun _=>none,ρ.imm⟩ e.part.get w:=⟨fun _ _ h=>(by cases h),fun _ _ _ h=>(by cases h),fun _ _ _ _ _ h=>(by cases h),hr.imm,fun _ _ _ _ _ h=>(by cases h),hr.glob⟩
 obtain ⟨r,v',w',g,q1,q2,q3,q4,q5,q6,q7⟩:=hv hK hF ⟨fun _=>none,ρ.imm⟩ w al b6 b7 (fun b _=>bm b) (fun _ _ _=>rfl) c0 base
 have bn:∀b base,r b=some base→e.nx≤b∧b<e.nx'∧w.heap.size≤base.cb:=by
  intro b base l;rcases q4.new b base l with h|⟨I,J,h3⟩
  ·cases h
  ·refine ⟨I,q6▸J,?_⟩;rcases h3 with h|⟨_,_,h,_⟩
   ·exact h
   ·cases h
 have bd:∀k x,g.blk.get k=some x→e.nx≤k∧k<e.nx':=by
  intro k x hk;rcases q4.live k (by rw [hk];exact F0 _) with h|⟨I,J⟩
  ·exact absurd (bm k) h
  ·exact ⟨I,q6▸J⟩
 have cf:e.nx≤e.nx':=by have:=q4.nx;rw [q6] at this;exact this
 have ch:=hr.lt
 let σ:Ren:=⟨fun b=>if e.nx+d≤b∧b<e.nx'+d then r (b-d) else ρ b,r.imm⟩
 have bs:∀b base,r b=some base→σ (b+d)=some base:=by
  intro b base l;obtain ⟨I,J,_⟩:=bn b base l;show (if e.nx+d≤b+d∧b+d<e.nx'+d then r (b+d-d) else ρ (b+d))=some base
  rw [if_pos ⟨by omega,by omega⟩,Nat.add_sub_cancel]
  exact l
 have an:∀b base,σ b=some base→(e.nx+d≤b∧b<e.nx'+d∧r (b-d)=some base)∨ρ b=some base:=by
  intro b base l;have l:(if e.nx+d≤b∧b<e.nx'+d then r (b-d) else ρ b)=some base:=l
  by_cases hh:e.nx+d≤b∧b<e.nx'+d
  ·rw [if_pos hh] at l;exact .inl ⟨hh.1,hh.2,l⟩
  ·rw [if_neg hh] at l;exact .inr l
 have t:∀b y,(mvT d e.out (e.out.keys 1 0)).get b=some y→∃k x,b=k+d∧g.blk.get k=some x∧mvK d x=some y∧e.nx≤k∧k<e.nx':=by
  intro b y l;obtain ⟨k,x,I,J,h3⟩:=en l;have h4:=q5 k x J;obtain ⟨h5,h6⟩:=bd k x h4;exact ⟨k,x,I,h4,h3,h5,h6⟩
 have ar:∀k base,e.nx≤k→k<e.nx'→σ (k+d)=some base→r k=some base:=by
  intro k base I J h;have h:(if e.nx+d≤k+d∧k+d<e.nx'+d then r (k+d-d) else ρ (k+d))=some base:=h
  rw [if_pos ⟨by omega,by omega⟩,Nat.add_sub_cancel] at h
  exact h
 refine ⟨σ,v',w',{blk:=mvT d e.out (e.out.keys 1 0),nx:=e.nx'+d,log:=[]},q1,q2.move bs,⟨?_,?_,?_,q3.imm,?_,q3.glob⟩,⟨⟨?_,q4.le.imm⟩,?_,?_,q4.calm,?_,⟨[],rfl,?_⟩,?_,?_⟩,fun b x h=>h,rfl,fun b l=>(by cases l)⟩
 ·intro b base l;rcases an b base l with ⟨_,_,h⟩|h
  ·exact q3.lt _ _ h
  ·have:=hr.lt b base h;have:=q4.calm.size;omega
 ·intro b base y l hy;obtain ⟨k,x,rfl,I,J,h3,h4⟩:=t b y hy;exact (q3.blk k base x (ar k base h3 h4 l) I).move bs J
 ·intro b b' base base' b8 l b9 I J;cases hy:(mvT d e.out (e.out.keys 1 0)).get b with
  |none=>exact absurd hy I
  |some y=>
   cases bv:(mvT d e.out (e.out.keys 1 0)).get b' with
   |none=>exact absurd bv J
   |some y'=>
    obtain ⟨k,x,rfl,a1,a2,a3,a4⟩:=t b y hy;obtain ⟨k',x',rfl,b1,b2,b3,b4⟩:=t b' y' bv;exact q3.apart k k' base base' (fun e=>b8 (by rw [e])) (ar k base a3 a4 l) (ar k' base' b3 b4 b9) (by rw [a1];exact F0 _) (by rw [b1];exact F0 _)
 ·intro k arr b base hk l hg;cases hy:(mvT d e.out (e.out.keys 1 0)).get b with
  |none=>exact absurd hy hg
  |some y=>
   obtain ⟨j,x,rfl,a1,a2,a3,a4⟩:=t b y hy;exact q3.off k arr j base hk (ar j base a3 a4 l) (by rw [a1];exact F0 _)
 ·intro b base l;show (if e.nx+d≤b∧b<e.nx'+d then r (b-d) else ρ b)=some base
  rw [if_neg]
  ·exact l
  ·rintro ⟨I,J⟩
   have:=av b I J;rw [this] at l;cases l
 ·show e.nx+d≤e.nx'+d;omega
 ·intro b base l;rcases an b base l with ⟨I,J,h⟩|h
  ·exact .inr ⟨I,J,.inl (bn _ _ h).2.2⟩
  ·exact .inl h
 ·intro k hk _;exact q4.kept k hk (fun b base l=>by cases l)
 ·intro b _ l;show (mvT d e.out (e.out.keys 1 0)).get b=(T.nil:T Am).get b;rw [T.get_nil];cases hy:(mvT d e.out (e.out.keys 1 0)).get b with
  |none=>rfl
  |some y=>
   obtain ⟨k,x,rfl,_,_,h3,h4⟩:=t b y hy;have l:k+d<e.nx+d∨e.nx'+d≤k+d:=l;omega
 ·intro b l;refine .inr ?_;cases hy:(mvT d e.out (e.out.keys 1 0)).get b with
  |none=>exact absurd hy l
  |some y=>
   obtain ⟨k,x,rfl,_,_,h3,h4⟩:=t b y hy;exact ⟨by show e.nx+d≤k+d;omega,by show k+d<e.nx'+d;omega⟩
 ·intro k arr hk;rcases q4.imm k arr hk with h|h|⟨b0,cc,h,_⟩
  ·exact .inl h
  ·exact .inr (.inl h)
  ·cases h
end Go.AE
namespace Go.AE
variable [Gl:AC]
section
variable [U:Vals]
omit U in
theorem G0:∀{a b:T AV},Kw a b=true→∀i x,a.get i=some x→b.get i=some x
 |.nil,_,_,i,x,hx=>by rw [T.get_nil] at hx;cases hx
 |.node v l r,.node v' l' r',h,i,x,hx=>by
  simp only [Kw,F4] at h;obtain ⟨h1,h2,h3⟩:=h;by_cases e:i=0
  ·rw [T.get_zero _ _ _ e] at hx ⊢;subst hx;cases v' with
   |none=>cases h1
   |some y=>rw [D8 _ _ h1]
  ·by_cases o:i%2=1
   ·rw [T.get_odd _ _ _ o] at hx ⊢;exact G0 h2 _ x hx
   ·rw [T.get_even _ _ _ (by omega) e] at hx ⊢;exact G0 h3 _ x hx
 |.node v l r,.nil,h,i,x,hx=>by
  simp only [Kw,F4] at h;obtain ⟨h1,h2,h3⟩:=h;by_cases e:i=0
  ·rw [T.get_zero _ _ _ e] at hx;subst hx;cases h1
  ·by_cases o:i%2=1
   ·rw [T.get_odd _ _ _ o] at hx;have:=G0 h2 _ x hx;rw [T.get_nil] at this;cases this
   ·rw [T.get_even _ _ _ (by omega) e] at hx;have:=G0 h3 _ x hx;rw [T.get_nil] at this;cases this
omit U in
theorem dm {a b:AI} (h:hY a b=true):a=b:=by
 cases a<;>cases b<;>simp only [hY,ei,F4] at h
 ·rw [Eg h]
 ·rw [Bh h]
 ·rw [Eg h]
 ·rw [Eg h]
 ·rw [EB (fun _ _=>J0) h.1,Hu (fun _ _=>J0) h.2]
end
section
variable [U:Unk] {E:Env} (hE:OK E) (hO:Ad E U.V.fn)
include hE hO in
theorem Si {callF:Ask→Aa→Option (Bool×AV×Aa)} (hF:FL E callF) {F:Nat} {ρ:Ren} {s s':AS} {c:Frame} {ccs:List Frame} {w:World} (hsr:SR ρ s c ccs w) (hwf:WF s.h) (hx:Z2 E callF F s=some s') (hfree:AX ρ s.h.nx s'.h.nx) (bs:List Frame) :
  ∃σ c' ccs' w',Steps E.P (lone c (ccs++bs) w) (lone c' (ccs'++bs) w')∧SR σ s' c' ccs' w'∧Ext ρ σ s.h s'.h w w':=by
 cases hx
end
end Go.AE
namespace Go.AE
variable [Gl:AC]
variable [U:Unk]
section
variable {E:Env} (hE:OK E) (hO:Ad E U.V.fn)
include hE hO
theorem Yj:∀(f:Nat) (F:FuncId) (G:Bool) (s:AS) (o:Ren) (c:Frame) (t:List Frame) (w:World) (ok:Bool) (v:AV) (h:Aa),SR o s c t w→WF s.h→Ge E f F G s=some (ok,v,h)→AX o s.h.nx h.nx→
  ∀base:List Frame,∃i q C w1 j,Steps E.P (lone c (t++base) w) (lone q base w1)∧q.fn=F∧(G=false→q.roundOf=none)∧Jf E.P q w1 ok C j∧VR i v C∧HR i h.blk.get j∧Ext o i s.h h w j:=by
 intro f
 induction f with
 |zero=>intro F G s o c t w ok v h p m d;cases d
 |succ f ih=>
  intro F G s o c t w ok v h p m d a base
  have O:∀(y:AS) (i:Ren) (L:Frame) (e:List Frame) (w1:World),Steps E.P (lone c (t++base) w) (lone L (e++base) w1)→SR i y L e w1→Ext o i s.h y.h w w1→Ge E f F G y=some (ok,v,h)→
    ∃i q C w1 j,Steps E.P (lone c (t++base) w) (lone q base w1)∧q.fn=F∧(G=false→q.roundOf=none)∧Jf E.P q w1 ok C j∧VR i v C∧HR i h.blk.get j∧Ext o i s.h h w j:=by
   intro y i L e w1 K T X h4;obtain ⟨τ,q,C,w2,j,u,z,A,Q,Y,Z,q7⟩:=ih F G y i L e w1 ok v h T (X.wf m) h4 (X.free a) base;exact ⟨τ,q,C,w2,j,Steps.trans K u,z,A,Q,Y,Z,X.trans q7 a⟩
  have hC:∀(fr:AF) (g J:Aa) (ok:Bool) (v:AV) (o:Ren) (q:Frame) (w:World),FrR o fr q→HR o g.blk.get w→WF g→Ge E f fr.fn true {fr,cs:=[],h:=g}=some (ok,v,J)→AX o g.nx J.nx→
    ∀(c0:Frame) (base:List Frame),∃i C j,BJ E.P (lone q (c0::base) w) c0 base ok C j∧VR i v C∧HR i J.blk.get j∧Ext o i g J w j:=by
   intro fr g J ok v o q w H N m d a c0 base;obtain ⟨i,D,C,w1,j,u,z,A,Q,Y,Z,q7⟩:=ih fr.fn true {fr,cs:=[],h:=g} o q [] w ok v J ⟨H,.nil,N⟩ m d a (c0::base);refine ⟨i,C,j,?_,Y,Z,q7⟩;have:=Steps.trans u (Steps.one (Q.back c0 base));cases ok<;>exact this
  have hF:FL E (MW E (Ge E f)):=by
   refine ⟨?_,?_⟩
   ·intro f' args aa g J ok v o w ha N m d a;simp only [MW] at d;split at d
    ·rename_i r M;cases d;exact Ev hE hO M ha N m a
    ·split at d
     ·rename_i fr H;exact hC fr g J ok v o _ w (B6 hE H ha) N m d a
     ·cases d
   ·intro l args g J ok v o w N m d a;simp only [MW] at d;split at d
    ·rename_i fr H;exact ⟨fr,H,fun q ab=>hC fr g J ok v o q w ab N m d a⟩
    ·cases d
  simp only [Ge] at d;split at d
  ·rename_i y R;split at d
   ·rename_i W;have n:=B5 f F G y ok v h d;obtain ⟨i,D,e,j,u,z,A⟩:=Qz hE hO p m R (fun b K T=>a b K (by omega)) base
    exact O y i D e j u z A d
   ·cases d
  split at d
  ·rename_i y I;split at d
   ·rename_i W;have n:=B5 f F G y ok v h d;obtain ⟨i,D,e,j,u,z,A⟩:=I8 (base:=base) hE p I (fun b K T=>a b K (by omega))
    exact O y i D e j (Steps.one u) z A d
   ·cases d
  ·rename_i ae C h' I;split at d
   ·rename_i W;simp only [C2,hS] at d;obtain ⟨rfl,rfl,rfl⟩:=d;obtain ⟨rfl,x,j,u,z,A,Q⟩:=Ir hE p I;obtain ⟨b1,b2⟩:=Au W;have ac:=Ax (Au b1).2;refine ⟨o,c,x,w,j,Steps.refl _ _,p.fr.fn.trans ac,fun ad=>?_,Q,u,z,A⟩
    subst ad;have B:=p.fr.round;simp only [Bool.false_or,Option.isNone_iff_eq_none] at b2;rw [b2] at B;exact B.none_inv
   ·cases d
  ·rename_i s2 ops k I;obtain ⟨rfl,hm,id,ht⟩:=Et I;split at d
   ·rename_i tmps K hd;have n:=B5 f F G _ ok v h d;obtain ⟨i,L,j,u,z,A⟩:=Ht hE hF p m hm ht hd (fun b a1 a2=>a b a1 (Nat.lt_of_lt_of_le a2 n)) base
    exact O _ i L t j u z A d
   ·rename_i v1 tmps K hd;have n:=B5 f F G _ ok v h d;obtain ⟨i,L,j,u,z,A⟩:=Ht hE hF p m hm ht hd (fun b a1 a2=>a b a1 (Nat.lt_of_lt_of_le a2 n)) base
    exact O _ i L t j u z A d
   ·cases d
  ·split at d
   ·rename_i y hl;split at d
    ·rename_i W;have n:=B5 f F G y ok v h d;obtain ⟨i,D,e,j,u,z,A⟩:=Si hE hO hF p m hl (fun b K T=>a b K (by omega)) base
     exact O y i D e j u z A d
    ·cases d
   split at d
   ·rename_i al S;unfold eU at S;cases S
   ·cases d
end
theorem Orc.valid {E:Env} (hE:∀[U:Unk],U.K=(Env.of E.P).kinds→OK E) {G:Nat→D→D} (hO:Ad E G) {N:Nat} {e:Orc} (h:∀[F:Facts],T5 E N e=true):e.Valid E.P G:=by
 intro U hK hG ρ w I ha hr J r c0 base;have hE:=hE hK;subst hG;have t:=h (F:=U.toFacts);unfold T5 at t;split at t
 ·rename_i ok v g l;simp only [F4,beq_iff_eq] at t;obtain ⟨⟨⟨⟨h1,h2⟩,h3⟩,h4⟩,h5⟩:=t;have e4:=L2 h4;unfold ff at l;split at l
  ·rename_i fr al;obtain ⟨σ,cf,v',w1,w',q1,q2,q3,q4,q5,q6,q7⟩:=Yj hE hO N e.f false _ ρ _ [] w ok v g ⟨B6 hE al ha,.nil,hr⟩ J l (by show AX ρ e.nx g.nx;rw [e4];exact r) (c0::base)
   refine ⟨σ,v',w',g,?_,D8 _ _ h2▸q5,q6,q7,Dc h3,e4,LF h5⟩;rw [←h1];have:=Steps.trans q1 (Steps.one (q4.back c0 base));cases ok<;>exact this
  ·cases l
 ·cases t
end Go.AE
namespace Go.AE
variable [Gl:AC]
structure PR where
 o:Oper
 looks:List Tmp
 mask:Nat
 free:List Nat
def eM (a:List Nat):List Edge→Option Nat
 |[]=>some 0
 |e::r=>match eM a r with
  |none=>none
  |some m=>match Region.binds .any e with
   |false=>some m
   |true=>match a[e.on]? with
    |some x=>some (m ||| x ||| 2^e.on)
    |none=>none
def Mg (m n:Nat):List Nat:=(List.range n).filter fun p=>!Nat.beq (m/2^(n-1-p)%2) 1
def fi (all:Array Oper) (x y:Oper):Bool:=!W6 (Bk all y) x.dst && !W6 (Bk all x) y.dst && !Zc x.dst y.dst
def fa (all:Array Oper) (done:List Oper) (o:Oper) (l:List Nat):Bool:=l.all fun p=>match done[p]? with
 |some x=>fi all x o
 |none=>false
def MC (all:Array Oper):List Oper→List Nat→List Oper→Option (List PR)
 |[],_,_=>some []
 |o::rest,a,done=>match eM a o.after.toList with
  |none=>none
  |some m=>match fa all done o (Mg m done.length) with
   |false=>none
   |true=>match MC all rest (a++[m]) (o::done) with
    |none=>none
    |some l=>some (⟨o,Bk all o,m,Mg m done.length⟩::l)
def WA (x y:Rc):Bool:=In x.wr y.fp&&In y.wr x.fp&&JX x.wr y.wr&&Ys x.lo x.hi y.wr
def kN (x y:Rc):Bool:=List.casesOn (motive:=fun _=>Bool) x.wr (List.casesOn (motive:=fun _=>Bool) y.wr true (fun _ _=>WA x y)) (fun _ _=>WA x y)
def ti (p:Nat):List Rc→Option Rc:=Nat.rec (motive:=fun _=>List Rc→Option Rc) (fun l=>List.casesOn (motive:=fun _=>Option Rc) l none (fun x _=>some x)) (fun _ ih l=>List.casesOn (motive:=fun _=>Option Rc) l none (fun _ r=>ih r)) p
def FV (y:Rc) (a:List Rc):List Nat→Bool
 |[]=>true
 |p::r=>match ti p a with
  |some x=>match kN x y with
   |true=>FV y a r
   |false=>false
  |none=>false
def yp (n:Nat) (k:Nat→Aa):Aa:=Nat.casesOn (motive:=fun _=>Aa) n (k 0) (fun m=>k (Nat.succ m))
def O5 (h g:Aa):Aa:=yp g.nx fun n=>{blk:=Iu (G6 h.blk g.blk (BF h.nx g.log)) g.blk h.nx (n-h.nx),nx:=n,log:=BF h.nx g.log++h.log}
def PJ (h g:Aa):Aa:=List.casesOn (motive:=fun _=>Aa) g.log (Bool.casesOn (motive:=fun _=>Aa) (Nat.beq g.nx h.nx) (O5 h g) h) (fun _ _=>O5 h g)
theorem Xp (h g:Aa):O5 h g=AY h g:=by
 unfold O5 AY yp;cases g.nx<;>rfl
theorem WI (h g:Aa):PJ h g=AY h g:=by
 unfold PJ;rw [Xp];cases b:g.log with
 |cons a r=>rfl
 |nil=>
  show (Bool.casesOn (motive:=fun _=>Aa) (Nat.beq g.nx h.nx) (AY h g) h:Aa)=AY h g
  cases c:Nat.beq g.nx h.nx with
  |false=>rfl
  |true=>
   have d:g.nx=h.nx:=L2 c;show h=AY h g;unfold AY;rw [b,d,Nat.sub_self];cases h;rfl
section
variable [U:Facts]
abbrev DrR:=Option (Option AV×T AV×Aa)
def Rf (E:Env) (b:Ask→Aa→Option (Bool×AV×Aa)) (all:Array Oper) (nt:Nat) (F:Nat):List PR→List Rc→T AV→Aa→DrR:=
 Nat.rec (motive:=fun _=>List PR→List Rc→T AV→Aa→DrR) (fun _ _ _ _=>none) (fun _ ih l a tmps h=>
  List.casesOn (motive:=fun _=>DrR) l (some (none,tmps,h)) (fun p rest=>
   Option.casesOn (motive:=fun _=>DrR) (Dj E b all p.o (A1 tmps p.looks) h) none (fun d=>
    Bool.casesOn (motive:=fun _=>DrR) (Nat.ble h.nx d.g.nx) none (Bool.casesOn (motive:=fun _=>DrR) d.ok none
     (Bool.casesOn (motive:=fun _=>DrR) (FV {wr:=BF h.nx d.g.log,fp:=d.fp,lo:=h.nx,hi:=d.g.nx,dst:=p.o.dst,looks:=p.looks,mask:=p.mask} a p.free) none
      (Option.casesOn (motive:=fun _=>DrR) (Ey nt tmps p.o.dst d.v) none (fun c=>ih rest ({wr:=BF h.nx d.g.log,fp:=d.fp,lo:=h.nx,hi:=d.g.nx,dst:=p.o.dst,looks:=p.looks,mask:=p.mask}::a) c (PJ h d.g)))))))) F
def Yk (E:Env) (a:Ask→Aa→Option (Bool×AV×Aa)) (all:Array Oper) (nt:Nat) (tmps:T AV) (h:Aa):DrR:=
 Option.casesOn (motive:=fun _=>DrR) (Option.casesOn (motive:=fun _=>DrR) (MC all all.toList [] []) none (fun b=>Rf E a all nt 100000 b [] tmps h)) (BY E a all nt all.toList [] tmps h) some
end
theorem vg (a:List Rc):∀l:List Edge,eM (a.map Rc.mask) l=BM a l:=by
 intro l
 induction l with
 |nil=>rfl
 |cons e r ih=>
  unfold eM BM;rw [ih];cases BM a r with
  |none=>rfl
  |some m=>
   simp only;cases Region.binds .any e with
   |false=>rfl
   |true=>
    simp only [sd];cases a[e.on]?<;>rfl
theorem bJ:∀(p:Nat) (l:List Rc),ti p l=l[p]?:=by
 intro p
 induction p with
 |zero=>intro l;cases l<;>rfl
 |succ p ih=>intro l;cases l with
  |nil=>rfl
  |cons x r=>exact ih r
theorem bP {x y:Rc} (h:kN x y=true):WA x y=true:=by
 unfold kN at h;cases b:x.wr with
 |cons a r=>rw [b] at h;exact h
 |nil=>
  cases c:y.wr with
  |cons a r=>rw [b,c] at h;exact h
  |nil=>
   unfold WA;rw [b,c];cases x.fp<;>cases y.fp<;>rfl
theorem Tw {y:Rc} {a:List Rc}:∀{l:List Nat},FV y a l=true→∀p∈l,∃x,a[p]?=some x∧WA x y=true:=by
 intro l
 induction l with
 |nil=>intro _ p b;cases b
 |cons q r ih=>
  intro h p b;unfold FV at h;split at h
  ·rename_i x c;split at h
   ·rename_i d;rcases gk.1 b with rfl|b
    ·exact ⟨x,by rw [←bJ];exact c,bP d⟩
    ·exact ih h p b
   ·cases h
  ·cases h
theorem RK {y:Rc}:∀(l:List Rc) (i:Nat),(∀j x,l[j]?=some x→(Nat.beq (y.mask/2^(i+j)%2) 1||x.apart y)=true)→De y l i=true:=by
 intro l
 induction l with
 |nil=>intro i _;rfl
 |cons x r ih=>
  intro i h;unfold De;have a:=h 0 x rfl;rw [n0] at a;rw [a];exact ih (i+1) (fun j z b=>by have:=h (j+1) z b;rwa [show i+(j+1)=i+1+j from by omega] at this)
inductive RL2 (all:Array Oper):List Rc→List Oper→Prop
 |nil:RL2 all [] []
 |cons {x:Rc} {o:Oper} {l:List Rc} {l':List Oper} (hd:x.dst=o.dst) (hl:x.looks=Bk all o) (k:RL2 all l l'):RL2 all (x::l) (o::l')
theorem RL2.len {all:Array Oper} {l:List Rc} {l':List Oper} (h:RL2 all l l'):l.length=l'.length:=by
 induction h with
 |nil=>rfl
 |cons _ _ _ ih=>simp [ih]
theorem RL2.get {all:Array Oper} {l:List Rc} {l':List Oper} (h:RL2 all l l'):∀{p:Nat} {x:Rc},l[p]?=some x→∃o,l'[p]?=some o∧x.dst=o.dst∧x.looks=Bk all o:=by
 induction h with
 |nil=>intro p x r;simp at r
 |cons t I k ih=>
  intro p x r;cases p with
  |zero=>simp at r;subst r;exact ⟨_,rfl,t,I⟩
  |succ p=>exact ih (by simpa using r)
theorem Z7 {all:Array Oper} {a:List Rc} {done:List Oper} {o:Oper} {y:Rc} {m:Nat} (k:RL2 all a done) (e:y.mask=m) (f:y.dst=o.dst) (g:y.looks=Bk all o)
  (n:fa all done o (Mg m done.length)=true) (p:FV y a (Mg m done.length)=true):De y a.reverse 0=true:=by
 refine RK _ _ fun j x h=>?_
 rw [pc,e]
 have q:j<a.length:=by
  have:=(Id.1 h).1;simpa using this
 have d:a[a.length-1-j]?=some x:=by
  rw [List.getElem?_reverse (by simpa using q)] at h
  exact h
 cases r:Nat.beq (m/2^j%2) 1 with
 |true=>rfl
 |false=>
  have c:a.length-1-j∈Mg m done.length:=by
   unfold Mg;rw [List.mem_filter,List.mem_range,←k.len];refine ⟨by omega,?_⟩
   rw [show a.length-1-(a.length-1-j)=j from by omega,r]
   rfl
  obtain ⟨x1,l,i⟩:=Tw p _ c;rw [d] at l;cases l;obtain ⟨o1,s,t,u⟩:=k.get d;have b:=List.all_eq_true.1 n _ c;rw [s] at b;simp only [fi] at b;rw [Bool.false_or];unfold Rc.apart;unfold WA at i;rw [t,u,f,g];simp only [F4] at i b ⊢;simp only [i,b,and_self]
section
variable [U:Facts]
theorem T1 {E:Env} {a:Ask→Aa→Option (Bool×AV×Aa)} {all:Array Oper} {nt F:Nat} (p:PR) (rest:List PR) (b:List Rc) (tmps:T AV) (h:Aa) :
  Rf E a all nt (F+1) (p::rest) b tmps h=(match Dj E a all p.o (A1 tmps p.looks) h with
   |none=>none
   |some d=>match Nat.ble h.nx d.g.nx with
    |false=>none
    |true=>match d.ok with
     |false=>none
     |true=>match FV {wr:=BF h.nx d.g.log,fp:=d.fp,lo:=h.nx,hi:=d.g.nx,dst:=p.o.dst,looks:=p.looks,mask:=p.mask} b p.free with
      |false=>none
      |true=>match Ey nt tmps p.o.dst d.v with
       |none=>none
       |some c=>Rf E a all nt F rest ({wr:=BF h.nx d.g.log,fp:=d.fp,lo:=h.nx,hi:=d.g.nx,dst:=p.o.dst,looks:=p.looks,mask:=p.mask}::b) c (PJ h d.g)):=by
 show Option.casesOn (motive:=fun _=>DrR) (Dj E a all p.o (A1 tmps p.looks) h) none _=_
 cases Dj E a all p.o (A1 tmps p.looks) h with
 |none=>rfl
 |some d=>
  show Bool.casesOn (motive:=fun _=>DrR) (Nat.ble h.nx d.g.nx) none _=_
  simp only;cases Nat.ble h.nx d.g.nx with
  |false=>rfl
  |true=>
   show Bool.casesOn (motive:=fun _=>DrR) d.ok none _=_
   simp only;cases d.ok with
   |false=>rfl
   |true=>
    show Bool.casesOn (motive:=fun _=>DrR) (FV _ b p.free) none _=_
    simp only;cases FV {wr:=BF h.nx d.g.log,fp:=d.fp,lo:=h.nx,hi:=d.g.nx,dst:=p.o.dst,looks:=p.looks,mask:=p.mask} b p.free with
    |false=>rfl
    |true=>
     show Option.casesOn (motive:=fun _=>DrR) (Ey nt tmps p.o.dst d.v) none _=_
     simp only;cases Ey nt tmps p.o.dst d.v with
     |none=>rfl
     |some c=>rfl
theorem Z8 {E:Env} {c:Ask→Aa→Option (Bool×AV×Aa)} {all:Array Oper} {nt:Nat}:∀(l:List Oper) (n:List Nat) (done:List Oper) (p:List PR) (F:Nat) (b:List Rc) (tmps:T AV) (h:Aa) (r:Option AV×T AV×Aa),
  MC all l n done=some p→n=b.reverse.map Rc.mask→RL2 all b done→Rf E c all nt F p b tmps h=some r→BY E c all nt l b.reverse tmps h=some r:=by
 intro l
 induction l with
 |nil=>
  intro n done p F b tmps h r e q s a;cases e;cases F with
  |zero=>cases a
  |succ F=>exact a
 |cons o rest ih=>
  intro n done p F b tmps h r e q s a;unfold MC at e;split at e
  ·cases e
  ·rename_i m x;split at e
   ·cases e
   ·rename_i t;split at e
    ·cases e
    ·rename_i z u;cases e;cases F with
     |zero=>cases a
     |succ F=>
      rw [q,vg] at x;unfold BY;rw [x];rw [T1] at a;simp only at a ⊢;cases j:Dj E c all o (A1 tmps (Bk all o)) h with
      |none=>rw [j] at a;cases a
      |some d=>
       rw [j] at a;simp only at a ⊢;cases y:Nat.ble h.nx d.g.nx with
       |false=>rw [y] at a;cases a
       |true=>
        rw [y] at a;simp only at a;cases k:d.ok with
        |false=>rw [k] at a;cases a
        |true=>
         rw [k] at a;simp only at a ⊢;cases i:FV {wr:=BF h.nx d.g.log,fp:=d.fp,lo:=h.nx,hi:=d.g.nx,dst:=o.dst,looks:=Bk all o,mask:=m} b (Mg m done.length) with
         |false=>rw [i] at a;cases a
         |true=>
          rw [i] at a;simp only at a;rw [Z7 s rfl rfl rfl t i];simp only;cases f:Ey nt tmps o.dst d.v with
          |none=>rw [f] at a;cases a
          |some w=>
           rw [f] at a;simp only [WI] at a ⊢;have:=ih _ _ _ _ _ _ _ _ u (by simp [q]) (RL2.cons rfl rfl s) a
           simpa using this
theorem Iv {E:Env} {a:Ask→Aa→Option (Bool×AV×Aa)} {all:Array Oper} {nt:Nat} {tmps:T AV} {h:Aa} {r:Option AV×T AV×Aa} (b:Yk E a all nt tmps h=some r):BY E a all nt all.toList [] tmps h=some r:=by
 unfold Yk at b;cases c:MC all all.toList [] [] with
 |none=>rw [c] at b;exact b
 |some e=>
  rw [c] at b;simp only at b;cases d:Rf E a all nt 100000 e [] tmps h with
  |none=>rw [d] at b;exact b
  |some x=>
   rw [d] at b;cases b;exact Z8 _ _ _ _ _ [] _ _ _ c rfl .nil d
end
end Go.AE
namespace Go.AE
variable [Gl:AC]
structure CX where
 fn:FuncId
 nt:Nat
 defers:List AD
 kind:CallKind
 round:Option Nat
 cs:List AF
def CX.as (X:CX) (tmps:T AV) (todo:List AI) (mode:HJ) (h:Aa):AS:=⟨⟨X.fn,X.nt,tmps,todo,X.defers,mode,X.kind,X.round⟩,X.cs,h⟩
inductive QSt where
 |o (l:List Oper) (all:Array Oper) (k:List AI) (tmps:T AV) (h:Aa) (X:CX)
 |c (c:Code) (k:List AI) (tmps:T AV) (h:Aa) (X:CX)
 |k (k:List AI) (tmps:T AV) (h:Aa) (X:CX)
 |g (s:AS)
abbrev R3:=Option (Bool×AV×Aa)
def MV (n:Nat) (k:Nat→R3):R3:=Nat.casesOn (motive:=fun _=>R3) n (k 0) (fun m=>k (Nat.succ m))
theorem J3 (n:Nat) (k:Nat→R3):MV n k=k n:=by cases n<;>rfl
def SP (h:Aa) (k:Aa→R3):R3:=Aa.casesOn (motive:=fun _=>R3) h (fun b n l=>MV n (fun n=>k ⟨b,n,l⟩))
theorem Om (h:Aa) (k:Aa→R3):SP h k=k h:=by
 obtain ⟨b,n,l⟩:=h;exact J3 n (fun n=>k ⟨b,n,l⟩)
section
variable [U:Facts]
def Jq (ih:QSt→R3) (s:AS):R3:=match s with
 |⟨⟨fn,nt,tmps,todo,defers,mode,kind,round⟩,cs,h⟩=>match mode with
  |.run=>MV fn fun fn=>MV nt fun nt=>SP h fun h=>ih (.k todo tmps h ⟨fn,nt,defers,kind,round,cs⟩)
  |m=>ih (.g ⟨⟨fn,nt,tmps,todo,defers,m,kind,round⟩,cs,h⟩)
def gen (E:Env) (d:FuncId) (e:Bool) (ih:QSt→R3) (a:Ask→Aa→R3) (s:AS):R3:=match Wl E s with
   |some b=>(match Nat.ble s.h.nx b.h.nx with
     |true=>Jq ih b
     |false=>none)
   |none=>match A8 E s with
    |.next b=>match Nat.ble s.h.nx b.h.nx with
      |true=>Jq ih b
      |false=>none
    |.done ok v h=>match Nat.ble s.h.nx h.nx&&Nat.beq s.fr.fn d&&(e||s.fr.round.isNone) with
      |true=>some (ok,v,h)
      |false=>none
    |.draw s ops k=>
      match Yk E a ops s.fr.nt s.fr.tmps s.h with
      |some (none,tmps,h)=>Jq ih {s with fr:={s.fr with tmps,todo:=k},h}
      |some (some v,tmps,h)=>Jq ih {s with fr:={s.fr with tmps,todo:=.dead::k,mode:=.panic [(v,false)]},h}
      |none=>none
    |.bad _=>match Z2 E a 100000 s with
      |some c=>match Nat.ble s.h.nx c.h.nx with
        |true=>Jq ih c
        |false=>none
      |none=>none
def jh (v:Value):AV:=match ofValue v with
  |some a=>a
  |none=>.top
def yL (i:Tmp) (t:T AV):AV:=Option.casesOn (motive:=fun _=>AV) (T.get t i) .top fun v=>v
def kI (v:Value) (t:T AV):AV:=jh v
def wi (g:Nat) (t:T AV):AV:=.glob g 0
def xU (g:FuncId) (t:T AV):AV:=.func (.func g) [] []
def evF (t:T AV) (x:Operand):AV:=Operand.casesOn (motive:=fun _=>T AV→AV) x yL kI wi xU t
abbrev OT:=Env→(QSt→R3)→Oper→List Oper→Array Oper→List AI→Option Tmp→T AV→Aa→CX→R3
def onK (E:Env) (ih:QSt→R3) (rest:List Oper) (all:Array Oper) (k:List AI) (dst:Option Tmp) (tmps:T AV) (X:CX) (v:AV) (h:Aa):R3:=
 Option.casesOn (motive:=fun _=>R3) dst (ih (.o rest all k tmps h X)) (fun d=>Bool.casesOn (motive:=fun _=>R3) (Nat.blt d X.nt) none (ih (.o rest all k (T.set tmps d v) h X)))
def XT (E:Env) (ih:QSt→R3) (rest:List Oper) (all:Array Oper) (k:List AI) (dst:Option Tmp) (tmps:T AV) (X:CX) (v:AV) (h:Aa):R3:=SP h fun h=>onK E ih rest all k dst tmps X v h
theorem Lo (E:Env) (ih:QSt→R3) (rest:List Oper) (all:Array Oper) (k:List AI) (dst:Option Tmp) (tmps:T AV) (X:CX) (v:AV) (h:Aa):XT E ih rest all k dst tmps X v h=onK E ih rest all k dst tmps X v h:=Om _ _
def DJ (E:Env) (ih:QSt→R3) (o:Oper) (rest:List Oper) (all:Array Oper) (k:List AI) (tmps:T AV) (h:Aa) (X:CX):R3:=ih (.g (X.as tmps (.ops all (o::rest)::k) .run h))
def Lh (E:Env) (ih:QSt→R3) (o:Oper) (rest:List Oper) (all:Array Oper) (k:List AI) (dst:Option Tmp) (tmps:T AV) (h:Aa) (X:CX) (r:Option AV):R3:=
 Option.casesOn (motive:=fun _=>R3) r (DJ E ih o rest all k tmps h X) (fun v=>onK E ih rest all k dst tmps X v h)
def SA (E:Env) (ih:QSt→R3) (o:Oper) (rest:List Oper) (all:Array Oper) (k:List AI) (dst:Option Tmp) (tmps:T AV) (h:Aa) (X:CX) (r:Option (AV×Aa)):R3:=
 Option.casesOn (motive:=fun _=>R3) r (DJ E ih o rest all k tmps h X) (fun p=>Prod.casesOn (motive:=fun _=>R3) p (fun v h'=>Bool.casesOn (motive:=fun _=>R3) (Nat.ble h.nx h'.nx) none (XT E ih rest all k dst tmps X v h')))
def YH (E:Env) (ih:QSt→R3) (o:Oper) (rest:List Oper) (all:Array Oper) (k:List AI) (dst:Option Tmp) (tmps:T AV) (h:Aa) (X:CX) (r:Option Aa):R3:=
 Option.casesOn (motive:=fun _=>R3) r (DJ E ih o rest all k tmps h X) (fun h'=>Bool.casesOn (motive:=fun _=>R3) (Nat.ble h.nx h'.nx) none (XT E ih rest all k dst tmps X AV.undef h'))
def dB:OT:=fun E ih o rest all k dst tmps h X=>DJ E ih o rest all k tmps h X
def fN (x:Operand):OT:=fun E ih o rest all k dst tmps h X=>onK E ih rest all k dst tmps X (evF tmps x) h
def Aco (a:BinOp) (t:TypeId) (x y:Operand) (_:TypeId):OT:=fun E ih o rest all k dst tmps h X=>Lh E ih o rest all k dst tmps h X (jF E a t x y (evF tmps x) (evF tmps y))
def oUn (a:UnOp) (_:TypeId) (x:Operand):OT:=fun E ih o rest all k dst tmps h X=>Lh E ih o rest all k dst tmps h X (unB a (evF tmps x))
def pm (t:TypeId) (a:Operand):OT:=fun E ih o rest all k dst tmps h X=>Lh E ih o rest all k dst tmps h X (VJ E t (evF tmps a) h)
def lT (t:TypeId) (x:Operand) (f:Nat):OT:=fun E ih o rest all k dst tmps h X=>Lh E ih o rest all k dst tmps h X (Pm E t (evF tmps x) f)
def Uh (t:TypeId) (x:Operand) (f:Nat):OT:=fun E ih o rest all k dst tmps h X=>Lh E ih o rest all k dst tmps h X (FP E t (evF tmps x) f)
def Tq (t:TypeId) (x i:Operand):OT:=fun E ih o rest all k dst tmps h X=>Lh E ih o rest all k dst tmps h X (Gf E t (evF tmps x) (evF tmps i))
def kD (t:TypeId) (x i:Operand):OT:=fun E ih o rest all k dst tmps h X=>Lh E ih o rest all k dst tmps h X (O3 E t (evF tmps x) (evF tmps i))
def kJ (t:TypeId) (a x:Operand):OT:=fun E ih o rest all k dst tmps h X=>YH E ih o rest all k dst tmps h X (JR E t (evF tmps a) (evF tmps x) h)
def M3 (t:Operand) (i:Nat):OT:=fun E ih o rest all k dst tmps h X=>match evF tmps t with
 |.tuple a=>Lh E ih o rest all k dst tmps h X a[i]?
 |_=>DJ E ih o rest all k tmps h X
def S7 (t:TypeId):OT:=fun E ih o rest all k dst tmps h X=>Option.casesOn (motive:=fun _=>R3) (E.zero t) (DJ E ih o rest all k tmps h X) (fun z=>XT E ih rest all k dst tmps X (.ptr h.nx 0) (Bx h z.cells))
def gz (t:TypeId) (a:Array (Nat×Operand)):OT:=fun E ih o rest all k dst tmps h X=>Lh E ih o rest all k dst tmps h X (OZ E t (a.toList.map fun (i,x)=>(i,evF tmps x)))
def Ri (t:TypeId) (len:Nat) (a:Array (Nat×Operand)):OT:=fun E ih o rest all k dst tmps h X=>SA E ih o rest all k dst tmps h X (EV E t len (a.toList.map fun (i,x)=>(i,evF tmps x)) h)
def ld (x:Operand):OT:=fun E ih o rest all k dst tmps h X=>match evF tmps x with
 |.ptr b off=>onK E ih rest all k dst tmps X (.ptr b off) h
 |_=>DJ E ih o rest all k tmps h X
def gC (t:TypeId) (x:Operand):OT:=fun E ih o rest all k dst tmps h X=>match E.desc t with
  |some (.interface _)=>DJ E ih o rest all k tmps h X
  |some _=>onK E ih rest all k dst tmps X (.iface t (evF tmps x)) h
  |none=>DJ E ih o rest all k tmps h X
def jO (fn:Fn) (first captured:Array Operand):OT:=fun E ih o rest all k dst tmps h X=>match fn with
 |.yield _=>DJ E ih o rest all k tmps h X
 |fn=>onK E ih rest all k dst tmps X (.func fn (first.toList.map (evF tmps)) (captured.toList.map (evF tmps))) h
def Rp (tmps:T AV):Option Operand→Option AV
 |some o=>some (evF tmps o)
 |none=>none
def Tp (t:TypeId) (x:Operand) (lo hi a:Option Operand):OT:=fun E ih o rest all k dst tmps h X=>match a,hi with
  |some _,none=>DJ E ih o rest all k tmps h X
  |_,_=>SA E ih o rest all k dst tmps h X (sliceB E t (evF tmps x) (Rp tmps lo) (Rp tmps hi) (Rp tmps a) h)
def Y2 (c a b:Operand):OT:=fun E ih o rest all k dst tmps h X=>match evF tmps c with
 |.bool true=>onK E ih rest all k dst tmps X (evF tmps a) h
 |.bool false=>onK E ih rest all k dst tmps X (evF tmps b) h
 |_=>DJ E ih o rest all k tmps h X
def mX (s d:TypeId) (x:Operand):OT:=fun E ih o rest all k dst tmps h X=>SA E ih o rest all k dst tmps h X (UT E s d (evF tmps x) h)
def dL (t:TypeId) (m i:Operand) (ok:Bool):OT:=fun E ih o rest all k dst tmps h X=>Lh E ih o rest all k dst tmps h X (Lv E t (evF tmps m) (evF tmps i) ok h)
def TI (E:Env) (ih:QSt→R3) (o:Oper) (rest:List Oper) (all:Array Oper) (k:List AI) (tmps:T AV) (X:CX) (g:FuncId) (args:List AV) (h:Aa):R3:=match KC E g args h with
  |some _=>DJ E ih o rest all k tmps h X
  |none=>match E.fn.get g with
   |some fn=>match fn.body with
    |some b=>MV (max fn.ntmps args.length) fun nt=>ih (.c b [] (.ofList args) h ⟨g,nt,[],.normal,none,⟨X.fn,X.nt,tmps,.ops all (o::rest)::k,X.defers,.run,X.kind,X.round⟩::X.cs⟩)
    |none=>DJ E ih o rest all k tmps h X
   |none=>none
def X3 (E:Env) (ih:QSt→R3) (o:Oper) (rest:List Oper) (all:Array Oper) (k:List AI) (dst:Option Tmp) (tmps:T AV) (h:Aa) (X:CX) (r:Res):R3:=match r with
 |.val v h'=>Bool.casesOn (motive:=fun _=>R3) (Nat.ble h.nx h'.nx) none (XT E ih rest all k dst tmps X v h')
 |.enter g args h'=>TI E ih o rest all k tmps X g args h'
 |_=>DJ E ih o rest all k tmps h X
def Ix (tmps:T AV):List Operand→List AV
 |[]=>[]
 |x::r=>evF tmps x::Ix tmps r
def gN (f:Operand):Call→OT:=fun c E ih o rest all k dst tmps h X=>match evF tmps f with
  |.func fn first captured=>X3 E ih o rest all k dst tmps h X (B9 E fn captured (first++Ix tmps c.args.toList) h)
  |_=>DJ E ih o rest all k tmps h X
def Adm (r:Operand) (name:String):Call→OT:=fun c E ih o rest all k dst tmps h X=>X3 E ih o rest all k dst tmps h X (B9 E (.method name) [] (evF tmps r::Ix tmps c.args.toList) h)
def gQ (b:Builtin):Call→OT:=fun c E ih o rest all k dst tmps h X=>X3 E ih o rest all k dst tmps h X (FI E b c.argTypes.toList (Ix tmps c.args.toList) h)
def aC (c:Call):OT:=Callee.casesOn (motive:=fun _=>Call→OT) c.callee gN Adm gQ c
def N5 {a:Type} (_:a):OT:=dB
def K4 {a b:Type} (_:a) (_:b):OT:=dB
def ak {a b c:Type} (_:a) (_:b) (_:c):OT:=dB
def Wh {a b c d:Type} (_:a) (_:b) (_:c) (_:d):OT:=dB
def opF (a:Op):OT:=Op.casesOn (motive:=fun _=>OT) a
 fN fN Y2 S7 K4 gz Ri Wh
 pm kJ N5 N5 ld Aco oUn
 mX K4 gC jO K4 K4 ak Tp
 Uh lT Tq kD dL Wh ak Wh
 K4 K4 N5 Wh M3 aC N5 N5 N5
 K4 ak K4
def WN (E:Env) (tmps:T AV) (h:Aa):List ResultVar→Option (List AV)
 |[]=>some []
 |.tmp t::r=>match WN E tmps h r with
  |some l=>some ((match T.get tmps t with|some v=>v|none=>.top)::l)
  |none=>none
 |.cell a t::r=>match T.get tmps a with
  |some p=>match OJ E t p h,WN E tmps h r with
   |some v,some l=>some (v::l)
   |_,_=>none
  |none=>none
def jR (l:List AV):AV:=match l with
 |[v]=>v
 |l=>.tuple l
abbrev KT:=Env→FuncId→(QSt→R3)→List AI→T AV→Aa→CX→R3
def LX (E:Env) (a:FuncId) (ih:QSt→R3) (c:Code) (k:List AI) (tmps:T AV) (h:Aa) (X:CX):R3:=ih (.g (X.as tmps (.code c::k) .run h))
def eJ (E:Env) (a:FuncId) (ih:QSt→R3) (X:CX) (v:AV) (h:Aa) (EI:Unit→R3):R3:=match X.kind,X.cs with
 |.normal,⟨fn,nt,tmps,todo,defers,.run,kind,round⟩::cs=>match todo with
  |.ops all (o::rest)::k=>onK E ih rest all k o.dst tmps ⟨fn,nt,defers,kind,round,cs⟩ v h
  |.inRange l::k=>ih (.k (.endRange l::k) tmps h ⟨fn,nt,defers,kind,round,cs⟩)
  |_=>EI ()
 |.normal,[]=>match Nat.beq X.fn a with
  |true=>some (true,v,h)
  |false=>none
 |_,_=>EI ()
def bj (E:Env) (a:FuncId) (ih:QSt→R3) (tmps:T AV) (h:Aa) (X:CX) (EI:Unit→R3):R3:=match X.round,X.defers with
 |none,[]=>match E.fn.get X.fn with
  |some fn=>match WN E tmps h fn.results.toList with
   |some l=>eJ E a ih X (jR l) h EI
   |none=>none
  |none=>none
 |_,_=>EI ()
def ez:KT:=fun E a ih k tmps h X=>ih (.k k tmps h X)
def dP (id:Nat) (ops:Array Oper) (a:Bool):KT:=fun E b ih k tmps h X=>Bool.casesOn (motive:=fun _=>R3) a (ih (.o ops.toList ops k tmps h X)) (LX E b ih (.region id ops a) k tmps h X)
def Ab7 (a b:Code):KT:=fun E d ih k tmps h X=>ih (.c a (.code b::k) tmps h X)
def X8 (c:Operand) (x y:Code):KT:=fun E a ih k tmps h X=>match evF tmps c with
 |.bool b=>Bool.casesOn (motive:=fun _=>R3) b (ih (.c y k tmps h X)) (ih (.c x k tmps h X))
 |_=>LX E a ih (.cond c x y) k tmps h X
def j6 (id:Nat) (b:Code):KT:=fun E a ih k tmps h X=>ih (.c b (.inBlock id::k) tmps h X)
def ut (b:Code):KT:=fun E a ih k tmps h X=>ih (.c b (.inLoop b::k) tmps h X)
def iH (b:Code):KT:=fun E a ih k tmps h X=>ih (.c b (.inScope b::k) tmps h X)
def gh (f:Operand) (c:Array Tmp) (a b:Code):KT:=fun E d ih k tmps h X=>LX E d ih (.rangeFunc f c a b) k tmps h X
def ZC (id:Nat):KT:=fun E a ih k tmps h X=>Option.casesOn (motive:=fun _=>R3) (KD id k) (LX E a ih (.exit id) k tmps h X) (fun b=>ih (.k b tmps h X))
def kE (_:Nat):KT:=ez
def sS (l:Nat):KT:=fun E a ih k tmps h X=>LX E a ih (.goto l) k tmps h X
def Ack:KT:=fun E a ih k tmps h X=>bj E a ih tmps h X (fun _=>LX E a ih .ret k tmps h X)
def bE (w:String):KT:=fun _ _ _ _ _ _ _=>none
def Zt (c:Code):KT:=Code.casesOn (motive:=fun _=>KT) c ez dP Ab7 X8 j6 ut gh ZC iH kE sS Ack bE
def kF (E:Env) (a:FuncId) (ih:QSt→R3) (k:List AI) (tmps:T AV) (h:Aa) (X:CX):R3:=match k with
 |[]=>bj E a ih tmps h X (fun _=>ih (.g (X.as tmps [] .run h)))
 |.code c::k=>Zt c E a ih k tmps h X
 |.inBlock _::k=>ih (.k k tmps h X)
 |.inScope _::k=>ih (.k k tmps h X)
 |.inLoop b::k=>ih (.c b (.inLoop b::k) tmps h X)
 |.ops all l::k=>ih (.o l all k tmps h X)
 |k=>ih (.g (X.as tmps k .run h))
def kH (E:Env) (ih:QSt→R3) (l:List Oper) (all:Array Oper) (k:List AI) (tmps:T AV) (h:Aa) (X:CX):R3:=match l with
  |[]=>ih (.k k tmps h X)
  |o::rest=>match o.guard with
    |none=>opF o.op E ih o rest all k o.dst tmps h X
    |some _=>match BL all o tmps with
       |some true=>opF o.op E ih o rest all k o.dst tmps h X
       |some false=>onK E ih rest all k o.dst tmps X AV.undef h
       |none=>none
def U5 (E:Env) (run:FuncId→Bool→QSt→R3) (a:Ask) (h:Aa):R3:=match a with
 |.enter g args=>match KC E g args h with
  |some r=>some r
  |none=>match Bf E g args .normal with
   |some fr=>Jq (run fr.fn true) {fr,cs:=[],h}
   |none=>none
 |.round l args=>match G1 l args h with
  |some fr=>Jq (run fr.fn true) {fr,cs:=[],h}
  |none=>none
def goB (E:Env) (b:FuncId→Bool→QSt→R3) (e:Ask→Aa→R3) (n:Nat):FuncId→Bool→QSt→R3:=Nat.rec (motive:=fun _=>FuncId→Bool→QSt→R3) b (fun f ih a d s=>
  QSt.casesOn (motive:=fun _=>R3) s
   (fun l all k tmps h X=>kH E (ih a d) l all k tmps h X)
   (fun c k tmps h X=>Zt c E a (ih a d) k tmps h X)
   (fun k tmps h X=>kF E a (ih a d) k tmps h X)
   (fun s=>gen E a d (ih a d) e s)) n
def noB:FuncId→Bool→QSt→R3:=fun _ _ _=>none
def cfN (E:Env) (L:Nat):Ask→Aa→R3:=Nat.rec (motive:=fun _=>Ask→Aa→R3) (fun _ _=>none) (fun _ ih=>U5 E (goB E noB ih 1000000)) L
def XY (E:Env) (b:FuncId→Bool→QSt→R3) (n:Nat) (f:FuncId) (args:List AV) (h:Aa):R3:=
 match Bf E f args .normal with
 |some fr=>Jq (goB E b (cfN E 40) n f false) {fr,cs:=[],h}
 |none=>none
def HW (E:Env) (b:FuncId→Bool→QSt→R3) (N:Nat) (e:Orc):Bool:=
 match XY E b N e.f e.args {blk:=e.part,nx:=e.nx,log:=[]} with
 |some (ok,v,g)=>(ok==e.ok)&&By v e.v&&Nu e.out g.blk&&Nat.beq g.nx e.nx'&&W1 e.nx e.wr g.log
 |none=>false
def Dn (E:Env) (N:Nat) (e:Orc):Bool:=HW E noB N e
end
def QSt.as:QSt→AS
 |.o l all td tmps h X=>X.as tmps (.ops all l::td) .run h
 |.c r td tmps h X=>X.as tmps (.code r::td) .run h
 |.k td tmps h X=>X.as tmps td .run h
 |.g s=>s
section
variable [U:Facts]
inductive Cg (E:Env):AS→AS→Prop
 |refl (s:AS):Cg E s s
 |head {s s1 s2:AS} (h:A8 E s=.next s1) (hn:s.h.nx≤s1.h.nx) (k:Cg E s1 s2):Cg E s s2
theorem Cg.one {E:Env} {s l:AS} (h:A8 E s=.next l) (r:s.h.nx≤l.h.nx):Cg E s l:=.head h r (.refl l)
def Via (E:Env) (b:FuncId) (ih:QSt→R3) (s:AS) (r:R3):Prop:=∀x,r=some x→(∃st,Cg E s st.as∧ih st=some x)∨(∃a,Cg E s a∧A8 E a=.done true x.2.1 x.2.2∧x.1=true∧a.fr.fn=b∧a.fr.round=none∧a.h.nx≤x.2.2.nx)
theorem Via.none {E:Env} {l:FuncId} {ih:QSt→R3} {s:AS}:Via E l ih s none:=fun x h=>by cases h
theorem Via.ih {E:Env} {l:FuncId} {ih:QSt→R3} {s:AS} (st:QSt) (h:Cg E s st.as):Via E l ih s (ih st):=fun x r=>.inl ⟨st,h,r⟩
theorem P8 (t:T AV) (x:Operand):evF t x=Ak t x:=by
 cases x with
 |tmp i=>simp only [evF,yL,Ak];cases t.get i<;>rfl
 |const v=>rfl
 |global g=>rfl
 |func g=>rfl
theorem Jb (t:T AV):∀l:List Operand,Ix t l=l.map (Ak t)
 |[]=>rfl
 |x::r=>by simp [Ix,Jb t r,P8]
theorem Bc (t:T AV):evF t=Ak t:=funext (P8 t)
theorem Rv (h:Aa) (l:List AV):h.nx≤(Bx h l).nx:=by simp [Bx,Aa.new]
theorem Ul {E:Env} {t:TypeId} {x v:AV} {h h':Aa} (a:JR E t x v h=some h'):Jn E t x v h=some h':=by
 cases x<;>first | (cases a;done)|skip
 exact a
theorem Nv {n:String} {args a:List AV} {h h':Aa} {g:FuncId} (e:Lk n args h=.enter g a h'):False:=by
 unfold Lk at e
 repeat' (first | (cases e;done)|split at e)
theorem K3 {E:Env} {f g:FuncId} {args a:List AV} {h h':Aa} (e:RA E f args h=.enter g a h'):h'=h:=by
 unfold RA at e
 repeat' (first | (cases e;done)|split at e)
 all_goals first | (cases e;rfl)|exact (Nv e).elim
theorem Pi {E:Env} {tmps:T AV} {c:Call} {h h':Aa} {g:FuncId} {a:List AV} (e:Dr E tmps c h=.enter g a h'):h'=h:=by
 unfold Dr at e;simp only at e;split at e
 ·unfold FI BQ Df Ew at e
  repeat' (first | (cases e;done)|split at e)
 ·unfold B9 at e
  repeat' (first | (cases e;done)|exact K3 e|split at e)
 ·split at e
  ·unfold B9 at e
   repeat' (first | (cases e;done)|exact K3 e|split at e)
  ·cases e
theorem Rd {E:Env} {o:Oper} {rest:List Oper} {all:Array Oper} {k:List AI} {tmps a:T AV} {h h':Aa} {X:CX} {v:AV} (b:BL all o tmps=some true) (c:aop E tmps h o.op=.val v h') (d:Ey X.nt tmps o.dst v=some a) :
  A8 E (X.as tmps (.ops all (o::rest)::k) .run h)=.next (X.as a (.ops all rest::k) .run h'):=by
 simp only [A8,CX.as,b,c,BU,B1,d]
theorem CN {E:Env} {i:FuncId} {ih:QSt→R3} {o:Oper} {rest:List Oper} {all:Array Oper} {k:List AI} {tmps:T AV} {h h':Aa} {X:CX} {v:AV} (c:BL all o tmps=some true) (e:aop E tmps h o.op=.val v h') (f:h.nx≤h'.nx) :
  Via E i ih (X.as tmps (.ops all (o::rest)::k) .run h) (onK E ih rest all k o.dst tmps X v h'):=by
 unfold onK;cases g:o.dst with
 |none=>
  have a:Ey X.nt tmps o.dst v=some tmps:=by rw [g];rfl
  exact Via.ih (.o rest all k tmps h' X) (.one (Rd c e a) f)
 |some d=>
  cases b:Nat.blt d X.nt with
  |false=>simp only;rw [b];exact Via.none
  |true=>
   have a:Ey X.nt tmps o.dst v=some (tmps.set d v):=by rw [g];simp only [Ey,b]
   simp only;rw [b];exact Via.ih (.o rest all k (tmps.set d v) h' X) (.one (Rd c e a) f)
theorem Ba {E:Env} {a:FuncId} {ih:QSt→R3} {o:Oper} {rest:List Oper} {all:Array Oper} {k:List AI} {tmps:T AV} {h:Aa} {X:CX} :
  Via E a ih (X.as tmps (.ops all (o::rest)::k) .run h) (DJ E ih o rest all k tmps h X):=Via.ih (.g _) (Cg.refl (X.as tmps (.ops all (o::rest)::k) .run h))
section
variable {E:Env} {f0:FuncId} {ih:QSt→R3} {o:Oper} {rest:List Oper} {all:Array Oper} {k:List AI} {tmps:T AV} {h:Aa} {X:CX} (hw:BL all o tmps=some true)
include hw
theorem Cy {r:Option AV} (a:∀v,r=some v→aop E tmps h o.op=.val v h):Via E f0 ih (X.as tmps (.ops all (o::rest)::k) .run h) (Lh E ih o rest all k o.dst tmps h X r):=by
 unfold Lh;cases r with
 |none=>exact Ba
 |some v=>exact CN hw (a v rfl) (IqQ _)
theorem J9 {r:Option (AV×Aa)} (a:∀v h',r=some (v,h')→aop E tmps h o.op=.val v h'):Via E f0 ih (X.as tmps (.ops all (o::rest)::k) .run h) (SA E ih o rest all k o.dst tmps h X r):=by
 unfold SA;simp only [Lo];cases r with
 |none=>exact Ba
 |some p=>
  obtain ⟨v,h'⟩:=p;simp only;cases b:Nat.ble h.nx h'.nx with
  |false=>exact Via.none
  |true=>exact CN hw (a v h' rfl) (hP b)
theorem WZ {r:Option Aa} (a:∀h',r=some h'→aop E tmps h o.op=.val .undef h'):Via E f0 ih (X.as tmps (.ops all (o::rest)::k) .run h) (YH E ih o rest all k o.dst tmps h X r):=by
 unfold YH;simp only [Lo];cases r with
 |none=>exact Ba
 |some h'=>
  simp only;cases b:Nat.ble h.nx h'.nx with
  |false=>exact Via.none
  |true=>exact CN hw (a h' rfl) (hP b)
theorem Us {g:FuncId} {args:List AV} (d:aop E tmps h o.op=.enter g args h):Via E f0 ih (X.as tmps (.ops all (o::rest)::k) .run h) (TI E ih o rest all k tmps X g args h):=by
 unfold TI;split
 ·exact Ba
 ·split
  ·rename_i fn a;split
   ·rename_i b e;rw [J3];refine Via.ih (.c b [] (.ofList args) h _) (.one ?_ (IqQ _));simp only [A8,CX.as,hw,d,BU,Bf,a,e,QSt.as]
   ·exact Ba
  ·exact Via.none
theorem LQ {r:Res} (a:aop E tmps h o.op=r) (b:∀g args h',r=.enter g args h'→h'=h):Via E f0 ih (X.as tmps (.ops all (o::rest)::k) .run h) (X3 E ih o rest all k o.dst tmps h X r):=by
 unfold X3;simp only [Lo];cases r with
 |val v h'=>
  simp only;cases c:Nat.ble h.nx h'.nx with
  |false=>exact Via.none
  |true=>exact CN hw a (hP c)
 |enter g args h'=>
  have:=b g args h' rfl;subst this;exact Us hw a
 |_=>exact Ba
end
section
variable {E:Env} {f0:FuncId} {ih:QSt→R3} {o:Oper} {rest:List Oper} {all:Array Oper} {k:List AI} {tmps:T AV} {h:Aa} {X:CX} (hw:BL all o tmps=some true)
include hw
theorem V0:Via E f0 ih (X.as tmps (.ops all (o::rest)::k) .run h) (opF o.op E ih o rest all k o.dst tmps h X):=by
 have le:=IqQ h.nx;generalize j:o.op=w;cases w with
 |move x=>exact CN (v:=evF tmps x) hw (by rw [j,Bc];rfl) le
 |assign x=>exact CN (v:=evF tmps x) hw (by rw [j,Bc];rfl) le
 |pick c a b=>
  show Via E f0 ih _ (Y2 c a b E ih o rest all k o.dst tmps h X);unfold Y2;rw [Bc];split
  ·rename_i n;exact CN hw (by rw [j];simp only [aop,n]) le
  ·rename_i n;exact CN hw (by rw [j];simp only [aop,n]) le
  ·exact Ba
 |alloc t=>
  show Via E f0 ih _ (S7 t E ih o rest all k o.dst tmps h X);unfold S7;simp only [Lo];cases B:E.zero t with
  |none=>exact Ba
  |some z=>exact CN hw (by rw [j];simp only [aop,B]) (Rv h z.cells)
 |load t a=>exact Cy hw (fun v l=>by rw [j];rw [Bc] at l;simp only [aop,l,BQ])
 |store t a x=>exact WZ hw (fun h' l=>by rw [j];rw [Bc] at l;simp only [aop,Ul l,Ew])
 |build t C=>exact Cy hw (fun v l=>by rw [j];rw [Bc] at l;simp only [aop,l,BQ])
 |buildSlice t len C=>exact J9 hw (fun v h' l=>by rw [j];rw [Bc] at l;simp only [aop,l,Df])
 |nilCheck x=>
  show Via E f0 ih _ (ld x E ih o rest all k o.dst tmps h X);unfold ld;rw [Bc];split
  ·rename_i n;exact CN hw (by rw [j];simp only [aop,n]) le
  ·exact Ba
 |binOp w t x y u=>exact Cy hw (fun v l=>by rw [j];rw [Bc] at l;simp only [aop,l,BQ])
 |unOp w t x=>exact Cy hw (fun v l=>by rw [j];rw [Bc] at l;simp only [aop,l,BQ])
 |convert s d x=>exact J9 hw (fun v h' l=>by rw [j];rw [Bc] at l;simp only [aop,l,Df])
 |makeInterface t x=>
  show Via E f0 ih _ (gC t x E ih o rest all k o.dst tmps h X);unfold gC;rw [Bc];split
  ·exact Ba
  ·rename_i d D F;exact CN hw (by rw [j];simp only [aop,F]) le
  ·exact Ba
 |makeFunc fn first captured=>
  show Via E f0 ih _ (jO fn first captured E ih o rest all k o.dst tmps h X);unfold jO;rw [Bc];split
  ·exact Ba
  ·exact CN hw (by rw [j];simp only [aop]) le
 |slice t x lo hi G=>
  show Via E f0 ih _ (Tp t x lo hi G E ih o rest all k o.dst tmps h X);have p:Rp tmps=A5 tmps:=by funext q;cases q<;>simp [Rp,A5,P8]
  unfold Tp;rw [Bc,p];split
  ·exact Ba
  ·exact J9 hw (fun v h' l=>by rw [j];simp only [aop,l,Df])
 |fieldAddr t x f=>exact Cy hw (fun v l=>by rw [j];rw [Bc] at l;simp only [aop,l,BQ])
 |field t x f=>exact Cy hw (fun v l=>by rw [j];rw [Bc] at l;simp only [aop,l,BQ])
 |indexAddr t x i=>exact Cy hw (fun v l=>by rw [j];rw [Bc] at l;simp only [aop,l,BQ])
 |index t x i=>exact Cy hw (fun v l=>by rw [j];rw [Bc] at l;simp only [aop,l,BQ])
 |lookup t m i ok=>exact Cy hw (fun v l=>by rw [j];rw [Bc] at l;simp only [aop,l,BQ])
 |extract t i=>
  show Via E f0 ih _ (M3 t i E ih o rest all k o.dst tmps h X);unfold M3;rw [Bc];split
  ·rename_i I n;exact Cy hw (fun v l=>by rw [j];simp only [aop,n,l,BQ])
  ·exact Ba
 |call c=>
  have A:∀r,Dr E tmps c h=r→aop E tmps h o.op=r:=fun r e=>by rw [j];exact e
  have p:∀r,Dr E tmps c h=r→∀g args h',r=.enter g args h'→h'=h:=fun r e g args h' q=>Pi (e.trans q)
  show Via E f0 ih _ (aC c E ih o rest all k o.dst tmps h X);unfold aC;cases n:c.callee with
  |value f=>
   show Via E f0 ih _ (gN f c E ih o rest all k o.dst tmps h X);unfold gN;rw [Bc];split
   ·rename_i fn first captured H;have e:Dr E tmps c h=B9 E fn captured (first++Ix tmps c.args.toList) h:=by simp only [Dr,n,H,Jb]
    exact LQ hw (A _ e) (p _ e)
   ·exact Ba
  |invoke r name=>
   have e:Dr E tmps c h=B9 E (.method name) [] (evF tmps r::Ix tmps c.args.toList) h:=by simp only [Dr,n,Jb,P8]
   exact LQ hw (A _ e) (p _ e)
  |builtin b=>
   have e:Dr E tmps c h=FI E b c.argTypes.toList (Ix tmps c.args.toList) h:=by simp only [Dr,n,Jb]
   exact LQ hw (A _ e) (p _ e)
 |_=>exact Ba
end
theorem RN {E:Env} {e:FuncId} {ih:QSt→R3} {s:AS} {dst:Option Tmp} {rest:List Oper} {all:Array Oper} {k:List AI} {tmps:T AV} {h:Aa} {X:CX} {v:AV} (b:∀c,Ey X.nt tmps dst v=some c→Cg E s (X.as c (.ops all rest::k) .run h)) :
  Via E e ih s (onK E ih rest all k dst tmps X v h):=by
 unfold onK;cases dst with
 |none=>exact Via.ih (.o rest all k tmps h X) (b tmps rfl)
 |some d=>
  cases a:Nat.blt d X.nt with
  |false=>simp only;rw [a];exact Via.none
  |true=>
   simp only;rw [a];exact Via.ih (.o rest all k (tmps.set d v) h X) (b _ (by simp only [Ey,a]))
theorem Xx {E:Env} {b:FuncId} {ih:QSt→R3} {l:List Oper} {all:Array Oper} {k:List AI} {tmps:T AV} {h:Aa} {X:CX}:Via E b ih (X.as tmps (.ops all l::k) .run h) (kH E ih l all k tmps h X):=by
 unfold kH;split
 ·exact Via.ih (.k k tmps h X) (.one (by simp only [A8,CX.as,QSt.as]) (IqQ _))
 ·rename_i o rest;split
  ·rename_i c;exact V0 (by unfold BL;rw [c])
  ·split
   ·rename_i a;exact V0 a
   ·rename_i a;refine RN fun e d=>.one ?_ (IqQ _)
    simp only [A8,CX.as,a,BU,B1,d]
   ·exact Via.none
theorem Pz {E:Env} {tmps:T AV} {h:Aa} (fr:AF) (b:fr.tmps=tmps):∀l:List ResultVar,WN E tmps h l=BG E fr h l
 |[]=>rfl
 |.tmp t::r=>by simp only [WN,BG,Pz fr b r,b];rfl
 |.cell a t::r=>by simp only [WN,BG,Pz fr b r,b];rfl
theorem Sd {E:Env} {j:FuncId} {ih:QSt→R3} {td:List AI} {tmps:T AV} {h:Aa} {X:CX} {EI:Unit→R3} (z:X.round=none→A8 E (X.as tmps td .run h)=.next (X.as tmps td .ret h)) (c:Via E j ih (X.as tmps td .run h) (EI ())) :
  Via E j ih (X.as tmps td .run h) (bj E j ih tmps h X EI):=by
 unfold bj;split
 ·rename_i y A;have m:=z y;split
  ·rename_i fn n;split
   ·rename_i l p;have p:BG E (X.as tmps td .ret h).fr h fn.results.toList=some l:=(Pz (X.as tmps td .ret h).fr rfl _).symm.trans p
    have d:A8 E (X.as tmps td .ret h)=CF (X.as tmps td .ret h).fr X.cs (jR l) h:=by
     have e:A8 E (X.as tmps td .ret h)=Eb E (X.as tmps td .ret h).fr X.cs h:=rfl;rw [e];unfold Eb;have q:(X.as tmps td .ret h).fr.defers=[]:=A;have s:(X.as tmps td .ret h).fr.mode=.ret:=rfl;have t:E.fn.get (X.as tmps td .ret h).fr.fn=some fn:=n;rw [q,s,t];simp only [p]
     match l with
     |[]=>rfl
     |[v]=>rfl
     |a::b::r=>rfl
    unfold eJ;split
    ·rename_i f nt tm todo B kd C cs u g;have i:(X.as tmps td .ret h).fr.kind=.normal:=u;rw [g] at d;simp only [CF,i] at d;split
     ·rename_i all o rest k;refine RN fun D w=>.head m (IqQ _) (.one ?_ (IqQ _))
      rw [d];have w:Ey nt tm o.dst (jR l)=some D:=w;simp only [B1,w];rfl
     ·rename_i F k;refine Via.ih (.k (.endRange F::k) tm h ⟨f,nt,B,kd,C,cs⟩) (.head m (IqQ _) (.one ?_ (IqQ _)));rw [d];rfl
     ·exact c
    ·rename_i u g;have i:(X.as tmps td .ret h).fr.kind=.normal:=u;rw [g] at d;simp only [CF,i] at d;split
     ·rename_i G;intro x H;cases H;exact .inr ⟨X.as tmps td .ret h,.one m (IqQ _),d,rfl,Bh G,y,IqQ _⟩
     ·exact Via.none
    ·exact c
   ·exact Via.none
  ·exact Via.none
 ·exact c
theorem Ef {E:Env} {a:FuncId} {ih:QSt→R3} {c:Code} {k:List AI} {tmps:T AV} {h:Aa} {X:CX}:Via E a ih (X.as tmps (.code c::k) .run h) (LX E a ih c k tmps h X):=Via.ih (.g _) (Cg.refl (X.as tmps (.code c::k) .run h))
theorem NN {E:Env} {d:FuncId} {ih:QSt→R3} {c:Code} {k:List AI} {tmps:T AV} {h:Aa} {X:CX}:Via E d ih (X.as tmps (.code c::k) .run h) (Zt c E d ih k tmps h X):=by
 have le:=IqQ h.nx;cases c with
 |skip=>exact Via.ih (.k k tmps h X) (.one (by simp only [A8,CX.as,QSt.as]) le)
 |label l=>exact Via.ih (.k k tmps h X) (.one (by simp only [A8,CX.as,QSt.as]) le)
 |region id ops e=>
  cases e with
  |false=>exact Via.ih (.o ops.toList ops k tmps h X) (.one (by simp only [A8,CX.as,QSt.as]) le)
  |true=>exact Ef
 |seq a b=>exact Via.ih (.c a (.code b::k) tmps h X) (.one (by simp only [A8,CX.as,QSt.as]) le)
 |cond c x y=>
  show Via E d ih _ (X8 c x y E d ih k tmps h X);unfold X8;rw [Bc];split
  ·rename_i b g;cases b with
   |true=>exact Via.ih (.c x k tmps h X) (.one (by simp only [A8,CX.as,QSt.as,g]) le)
   |false=>exact Via.ih (.c y k tmps h X) (.one (by simp only [A8,CX.as,QSt.as,g]) le)
  ·exact Ef
 |block id b=>exact Via.ih (.c b (.inBlock id::k) tmps h X) (.one (by simp only [A8,CX.as,QSt.as]) le)
 |loop b=>exact Via.ih (.c b (.inLoop b::k) tmps h X) (.one (by simp only [A8,CX.as,QSt.as]) le)
 |scope b=>exact Via.ih (.c b (.inScope b::k) tmps h X) (.one (by simp only [A8,CX.as,QSt.as]) le)
 |rangeFunc f n a b=>exact Ef
 |exit id=>
  show Via E d ih _ (ZC id E d ih k tmps h X);unfold ZC;cases i:KD id k with
  |none=>exact Ef
  |some j=>exact Via.ih (.k j tmps h X) (.one (by simp only [A8,CX.as,QSt.as,i]) le)
 |goto l=>exact Ef
 |ret=>exact Sd (fun m=>by simp only [A8,CX.as,DU,m]) Ef
 |refuse w=>exact Via.none
theorem ly {E:Env} {a:FuncId} {ih:QSt→R3} {k:List AI} {tmps:T AV} {h:Aa} {X:CX}:Via E a ih (X.as tmps k .run h) (kF E a ih k tmps h X):=by
 have le:=IqQ h.nx;unfold kF;split
 ·exact Sd (fun d=>by simp only [A8,CX.as,DU,d]) (Via.ih (.g _) (Cg.refl (X.as tmps [] .run h)))
 ·exact NN
 ·rename_i id k;exact Via.ih (.k k tmps h X) (.one (by simp only [A8,CX.as,QSt.as]) le)
 ·rename_i id k;exact Via.ih (.k k tmps h X) (.one (by simp only [A8,CX.as,QSt.as]) le)
 ·rename_i b k;exact Via.ih (.c b (.inLoop b::k) tmps h X) (.one (by simp only [A8,CX.as,QSt.as]) le)
 ·rename_i all l k;exact Via.ih (.o l all k tmps h X) (.refl (X.as tmps (.ops all l::k) .run h))
 ·exact Via.ih (.g _) (Cg.refl (X.as tmps k .run h))
theorem Cg.mono {E:Env} {s l:AS} (h:Cg E s l):s.h.nx≤l.h.nx:=by
 induction h with
 |refl s=>exact IqQ _
 |head h r k ih=>exact l8 r ih
theorem JM (ih:QSt→R3) (s:AS):∃st:QSt,st.as=s∧Jq ih s=ih st:=by
 obtain ⟨⟨fn,nt,tmps,todo,defers,mode,kind,round⟩,cs,h⟩:=s;cases mode with
 |run=>exact ⟨.k todo tmps h ⟨fn,nt,defers,kind,round,cs⟩,rfl,by simp only [Jq,J3,Om]⟩
 |ret=>exact ⟨.g ⟨⟨fn,nt,tmps,todo,defers,.ret,kind,round⟩,cs,h⟩,rfl,rfl⟩
 |panic a=>exact ⟨.g ⟨⟨fn,nt,tmps,todo,defers,.panic a,kind,round⟩,cs,h⟩,rfl,rfl⟩
theorem Vj {E:Env} {b:FuncId→Bool→QSt→R3} {d:Ask→Aa→R3} (n:Nat) (a:FuncId) (e:Bool) (st:QSt) (f:∀s,st≠.g s):Via E a (goB E b d n a e) st.as (goB E b d (n+1) a e st):=by
 cases st with
 |o l all td tmps h X=>exact Xx
 |c i td tmps h X=>exact NN
 |k td tmps h X=>exact ly
 |g s=>exact absurd rfl (f s)
theorem U7 {E:Env} {b:FuncId→Bool→QSt→R3} {a:Ask→Aa→R3} (n:Nat) (c:FuncId) (d:Bool) (s:AS):goB E b a (n+1) c d (.g s)=gen E c d (goB E b a n c d) a s:=rfl
end
section
variable [U:Unk]
theorem IU {E:Env} {b:FuncId→Bool→QSt→R3} {j:Ask→Aa→R3} (l:∀a c st x,b a c st=some x→st.as.h.nx≤x.2.2.nx):∀(n:Nat) (a:FuncId) (c:Bool) (st:QSt) (x:Bool×AV×Aa),goB E b j n a c st=some x→st.as.h.nx≤x.2.2.nx
 |0,a,c,st,x,h=>l a c st x h
 |n+1,a,c,st,x,h=>by
  have d:∀s,Jq (goB E b j n a c) s=some x→s.h.nx≤x.2.2.nx:=by
   intro s q;obtain ⟨f,t,u⟩:=JM (goB E b j n a c) s;rw [u] at q;rw [←t];exact IU l n a c f x q
  by_cases r:∃s,st=.g s
  ·obtain ⟨s,rfl⟩:=r;rw [U7] at h;unfold gen at h;show s.h.nx≤_;split at h
   ·split at h
    ·rename_i i;exact l8 (hP i) (d _ h)
    ·cases h
   ·split at h
    ·split at h
     ·rename_i i;exact l8 (hP i) (d _ h)
     ·cases h
    ·split at h
     ·rename_i i;cases h;exact hP (Au (Au i).1).1
     ·cases h
    ·rename_i y ops k m;obtain ⟨rfl,_,_⟩:=Et m;split at h
     ·rename_i o;exact l8 (Db _ _ _ _ _ _ _ (Iv o)) (d _ h)
     ·rename_i o;exact l8 (Db _ _ _ _ _ _ _ (Iv o)) (d _ h)
     ·cases h
    ·split at h
     ·split at h
      ·rename_i i;exact l8 (hP i) (d _ h)
      ·cases h
     ·cases h
  ·rcases Vj n a c st (fun s e=>r ⟨s,e⟩) x h with ⟨f,p,v⟩|⟨z,p,_,_,_,_,w⟩
   ·exact l8 p.mono (IU l n a c f x v)
   ·exact l8 p.mono w
def BOK (E:Env) (b:FuncId→Bool→QSt→R3):Prop:=∀(i:FuncId) (j:Bool) (st:QSt) (e:Ren) (c:Frame) (a:List Frame) (w:World) (ok:Bool) (v:AV) (h:Aa),SR e st.as c a w→WF st.as.h→b i j st=some (ok,v,h)→AX e st.as.h.nx h.nx→
  ∀base:List Frame,∃f d k w1 g,Steps E.P (lone c (a++base) w) (lone d base w1)∧d.fn=i∧(j=false→d.roundOf=none)∧Jf E.P d w1 ok k g∧VR f v k∧HR f h.blk.get g∧Ext e f st.as.h h w g
section
variable {E:Env} (hE:OK E) (hO:Ad E U.V.fn)
include hE
theorem Cg.ok {s s':AS} (k:Cg E s s') {ρ:Ren} {c:Frame} {r:List Frame} {w:World} (I:SR ρ s c r w) (l:AX ρ s.h.nx s'.h.nx) (base:List Frame) :
  ∃σ c' t w',Steps E.P (lone c (r++base) w) (lone c' (t++base) w')∧SR σ s' c' t w'∧Ext ρ σ s.h s'.h w w':=by
 induction k generalizing ρ c r w with
 |refl s=>exact ⟨ρ,c,r,w,Steps.refl _ _,I,Ext.refl _ _ _⟩
 |head h hn k ih=>
  have hm:=k.mono;obtain ⟨σ,c1,al,w1,q1,q2,q3⟩:=I8 (base:=base) hE I h (fun b h1 h2=>l b h1 (by omega))
  obtain ⟨τ,c2,J,w2,r1,r2,r3⟩:=ih q2 (q3.free l);exact ⟨τ,c2,J,w2,Steps.trans (Steps.one q1) r1,r2,q3.trans r3 l⟩
include hO
theorem Tt {b:FuncId→Bool→QSt→R3} {o:Ask→Aa→R3} (O:∀B A st x,b B A st=some x→st.as.h.nx≤x.2.2.nx) (W:BOK E b) (X:FL E o):∀(n:Nat) (B:FuncId) (A:Bool) (st:QSt) (J:Ren) (c:Frame) (r:List Frame) (w:World) (ok:Bool) (v:AV) (h:Aa),SR J st.as c r w→WF st.as.h→goB E b o n B A st=some (ok,v,h)→AX J st.as.h.nx h.nx→
  ∀base:List Frame,∃i o G w1 j,Steps E.P (lone c (r++base) w) (lone o base w1)∧o.fn=B∧(A=false→o.roundOf=none)∧Jf E.P o w1 ok G j∧VR i v G∧HR i h.blk.get j∧Ext J i st.as.h h w j:=by
 intro n
 induction n with
 |zero=>exact W
 |succ n ih=>
  intro B A st J c r w ok v h m C l a base
  have Q:∀(s t:AS) (i:Ren) (u:Frame) (d:List Frame) (w1:World),s=st.as→Steps E.P (lone c (r++base) w) (lone u (d++base) w1)→SR i t u d w1→Ext J i s.h t.h w w1→Jq (goB E b o n B A) t=some (ok,v,h)→
    ∃i o G w1 j,Steps E.P (lone c (r++base) w) (lone o base w1)∧o.fn=B∧(A=false→o.roundOf=none)∧Jf E.P o w1 ok G j∧VR i v G∧HR i h.blk.get j∧Ext J i s.h h w j:=by
   intro s t i u d w1 es H L Y h4;subst es;obtain ⟨D,Z,e2⟩:=JM (goB E b o n B A) t;subst Z;rw [e2] at h4;obtain ⟨τ,o,G,w2,j,y,p,z,K,R,M,q7⟩:=ih B A D i u d w1 ok v h L (Y.wf C) h4 (Y.free a) base;exact ⟨τ,o,G,w2,j,Steps.trans H y,p,z,K,R,M,Y.trans q7 a⟩
  have lt:∀t,Jq (goB E b o n B A) t=some (ok,v,h)→t.h.nx≤h.nx:=by
   intro t N;obtain ⟨D,Z,e2⟩:=JM (goB E b o n B A) t;rw [e2] at N;rw [←Z];exact IU O n B A D _ N
  have done:∀(s:AS) (i:Ren) (u:Frame) (d:List Frame) (w1:World) (ok:Bool) (v:AV) (h:Aa),A8 E s=.done ok v h→SR i s u d w1→s.fr.fn=B→(A=true∨s.fr.round=none)→
    d=[]∧∃G j,u.fn=B∧(A=false→u.roundOf=none)∧Jf E.P u w1 ok G j∧VR i v G∧HR i h.blk.get j∧Ext i i s.h h w1 j:=by
   intro s i u d w1 ok v h F N aa ab;obtain ⟨e,x,j,y,p,z,K⟩:=Ir hE N F;refine ⟨e,x,j,N.fr.fn.trans aa,fun ac=>?_,K,y,p,z⟩
   rcases ab with q|q
   ·rw [ac] at q;cases q
   ·have:=N.fr.round;rw [q] at this;exact this.none_inv
  by_cases hg:∃s,st=.g s
  ·obtain ⟨s,rfl⟩:=hg;rw [U7] at l;unfold gen at l;have m:SR J s c r w:=m;have C:WF s.h:=C;have a:AX J s.h.nx h.nx:=a;split at l
   ·rename_i t S;split at l
    ·have f:=lt t l;obtain ⟨i,I,d,j,y,p,z⟩:=Qz hE hO m C S (fun b H L=>a b H (by omega)) base
     exact Q s t i I d j rfl y p z l
    ·cases l
   ·split at l
    ·rename_i t F;split at l
     ·have f:=lt t l;obtain ⟨i,I,d,j,y,p,z⟩:=I8 (base:=base) hE m F (fun b H L=>a b H (by omega))
      exact Q s t i I d j rfl (Steps.one y) p z l
     ·cases l
    ·rename_i ad G h' F;split at l
     ·rename_i W;simp only [C2,hS] at l;obtain ⟨rfl,rfl,rfl⟩:=l;obtain ⟨b1,b2⟩:=Au W
      obtain ⟨rfl,x,j,y,p,z,K,R,M⟩:=done s J c r w _ _ _ F m (Ax (Au b1).2) (by
       cases A with
       |true=>exact .inl rfl
       |false=>simp only [Bool.false_or,Option.isNone_iff_eq_none] at b2;exact .inr b2)
      exact ⟨J,c,x,w,j,Steps.refl _ _,y,p,z,K,R,M⟩
     ·cases l
    ·rename_i s2 ops k F;obtain ⟨rfl,O,id,ht⟩:=Et F;split at l
     ·rename_i tmps H hd;have f:=lt _ l;obtain ⟨i,u,j,y,p,z⟩:=Ht hE X m C O ht (Iv hd) (fun b a1 a2=>a b a1 (Nat.lt_of_lt_of_le a2 f)) base
      exact Q _ _ i u r j rfl y p z l
     ·rename_i v1 tmps H hd;have f:=lt _ l;obtain ⟨i,u,j,y,p,z⟩:=Ht hE X m C O ht (Iv hd) (fun b a1 a2=>a b a1 (Nat.lt_of_lt_of_le a2 f)) base
      exact Q _ _ i u r j rfl y p z l
     ·cases l
    ·split at l
     ·rename_i t hl;split at l
      ·have f:=lt t l;obtain ⟨i,I,d,j,y,p,z⟩:=Si hE hO X m C hl (fun b H L=>a b H (by omega)) base
       exact Q s t i I d j rfl y p z l
      ·cases l
     ·cases l
  ·rcases Vj n B A st (fun s e=>hg ⟨s,e⟩) _ l with ⟨D,y,p⟩|⟨s1,y,p,z,K,R,M⟩
   ·have f:=IU O n B A D _ p;obtain ⟨i,u,d,w1,r1,r2,T⟩:=y.ok hE m (fun b H L=>a b H (by have:D.as.h.nx≤h.nx:=f;omega)) base
    obtain ⟨τ,o,G,w2,j,t1,t2,t3,t4,t5,t6,t7⟩:=ih B A D i u d w1 ok v h r2 (T.wf C) p (T.free a) base;exact ⟨τ,o,G,w2,j,Steps.trans r1 t1,t2,t3,t4,t5,t6,T.trans t7 a⟩
   ·have z:ok=true:=z;subst z;have M:s1.h.nx≤h.nx:=M;obtain ⟨i,u,d,w1,r1,r2,T⟩:=y.ok hE m (fun b H L=>a b H (by omega)) base
    obtain ⟨rfl,x,j,t1,t2,t3,t4,t5,t6⟩:=done s1 i u d w1 _ _ _ p r2 K (.inr R);exact ⟨i,u,x,w1,j,r1,t1,t2,t3,t4,t5,T.trans t6 a⟩
theorem Yu:∀L,FL E (cfN E L):=by
 intro L
 induction L with
 |zero=>exact ⟨fun _ _ _ _ _ _ _ _ _ _ _ _ h=>(by cases h),fun _ _ _ _ _ _ _ _ _ _ h=>(by cases h)⟩
 |succ L ih=>
  have u:∀(fr:AF) (g e:Aa) (ok:Bool) (v:AV) (f:Ren) (j:Frame) (w:World),FrR f fr j→HR f g.blk.get w→WF g→Jq (goB E noB (cfN E L) 1000000 fr.fn true) {fr,cs:=[],h:=g}=some (ok,v,e)→AX f g.nx e.nx→
    ∀(c0:Frame) (base:List Frame),∃m o n,BJ E.P (lone j (c0::base) w) c0 base ok o n∧VR m v o∧HR m e.blk.get n∧Ext f m g e w n:=by
   intro fr g e ok v f j w d k c b a c0 base;obtain ⟨q,p,z⟩:=JM (goB E noB (cfN E L) 1000000 fr.fn true) {fr,cs:=[],h:=g};rw [z] at b;obtain ⟨m,A,o,w1,n,B,G,H,C,D,F,x⟩:=Tt hE hO (fun _ _ _ _ h=>by cases h) (fun _ _ _ _ _ _ _ _ _ _ _ _ h=>by cases h) ih 1000000 fr.fn true q f j [] w ok v e (by rw [p];exact ⟨d,.nil,k⟩) (by rw [p];exact c) b (by rw [p];exact a) (c0::base)
   rw [p] at x;refine ⟨m,o,n,?_,D,F,x⟩;have:=Steps.trans B (Steps.one (C.back c0 base));cases ok<;>exact this
  show FL E (U5 E (goB E noB (cfN E L) 1000000));refine ⟨?_,?_⟩
  ·intro I args s g e ok v f w y k c b a;simp only [U5] at b;split at b
   ·rename_i r i;cases b;exact Ev hE hO i y k c a
   ·split at b
    ·rename_i fr d;exact u fr g e ok v f _ w (B6 hE d y) k c b a
    ·cases b
  ·intro l args g e ok v f w k c b a;simp only [U5] at b;split at b
   ·rename_i fr d;exact ⟨fr,d,fun j t=>u fr g e ok v f j w t k c b a⟩
   ·cases b
end
end
theorem Orc.validB {E:Env} (hE:∀[U:Unk],U.K=(Env.of E.P).kinds→OK E) {G:Nat→D→D} (hO:Ad E G) {b:[Facts]→FuncId→Bool→QSt→R3} (hm:∀[F:Facts] f0 rd st x,b f0 rd st=some x→st.as.h.nx≤x.2.2.nx) (hb:∀[U:Unk],U.K=(Env.of E.P).kinds→U.V.fn=G→BOK E b) {N:Nat} {e:Orc} (h:∀[F:Facts],HW E b N e=true):e.Valid E.P G:=by
 intro U hK hG ρ w J ha hr al r c0 base;have hE:=hE hK;have an:=hb hK hG;subst hG;have t:=h (F:=U.toFacts);unfold HW at t;split at t
 ·rename_i ok v g l;simp only [F4,beq_iff_eq] at t;obtain ⟨⟨⟨⟨h1,h2⟩,h3⟩,h4⟩,h5⟩:=t;have e4:=L2 h4;unfold XY at l;split at l
  ·rename_i fr ar;obtain ⟨av,I,s2⟩:=JM (goB E b (cfN E 40) N e.f false) {fr,cs:=[],h:={blk:=e.part,nx:=e.nx,log:=[]}};rw [s2] at l;obtain ⟨σ,cf,v',w1,w',q1,q2,q3,q4,q5,q6,q7⟩:=Tt hE hO hm an (Yu hE hO 40) N e.f false av ρ _ [] w ok v g (by rw [I];exact ⟨B6 hE ar ha,.nil,hr⟩) (by rw [I];exact al) l (by rw [I];show AX ρ e.nx g.nx;rw [e4];exact r) (c0::base)
   rw [I] at q7;refine ⟨σ,v',w',g,?_,D8 _ _ h2▸q5,q6,q7,Dc h3,e4,LF h5⟩;rw [←h1];have:=Steps.trans q1 (Steps.one (q4.back c0 base));cases ok<;>exact this
  ·cases l
 ·cases t
theorem Orc.validG {E:Env} (hE:∀[U:Unk],U.K=(Env.of E.P).kinds→OK E) {G:Nat→D→D} (hO:Ad E G) {N:Nat} {e:Orc} (h:∀[F:Facts],Dn E N e=true):e.Valid E.P G:=
 Orc.validB hE hO (b:=noB) (fun _ _ _ _ h=>by cases h) (fun _ _ _ _ _ _ _ _ _ _ _ _ _ _ h=>by cases h) h
end Go.AE
namespace Go.AE
variable [Gl:AC]
variable [U:Unk]
def Xd (x:Func):Bool:=!(x.name == "runtime.NumGoroutine")&&(x.body.isSome||(!(x.name == "maps.clone") && !(x.name == "internal/bytealg.IndexByteString") && !(x.name == "internal/bytealg.CountString"))||(Extern.allNextRows.lookup x.origin).isNone)
theorem Wu:Extern.allNextRows.lookup "maps.clone" = none:=by kernel_rfl
theorem XF:Extern.allGenericRows.lookup "maps.clone" = none:=by kernel_rfl
theorem Tu:Extern.allTypedRows.lookup "maps.clone" = none:=by kernel_rfl
theorem ZF:Extern.allRows.lookup "maps.clone" = some Extern.MapsClone.clone:=by kernel_rfl
theorem cE:Extern.allNextRows.lookup "internal/bytealg.IndexByteString" = none:=by kernel_rfl
theorem jL:Extern.allGenericRows.lookup "internal/bytealg.IndexByteString" = none:=by kernel_rfl
theorem YQ:Extern.allTypedRows.lookup "internal/bytealg.IndexByteString" = none:=by kernel_rfl
theorem kQ:Extern.allRows.lookup "internal/bytealg.IndexByteString" = some Extern.BytealgIndexByte.indexByte:=by kernel_rfl
theorem eu:Extern.allNextRows.lookup "internal/bytealg.CountString" = none:=by kernel_rfl
theorem kY:Extern.allGenericRows.lookup "internal/bytealg.CountString" = none:=by kernel_rfl
theorem aB:Extern.allTypedRows.lookup "internal/bytealg.CountString" = none:=by kernel_rfl
theorem iX:Extern.allRows.lookup "internal/bytealg.CountString" = some Extern.BytealgCount.count:=by kernel_rfl
omit U in
theorem E4 {x:Func} {n:String} (hn:x.name=n) (h1:Extern.allNextRows.lookup n=none) (h2:Extern.allNextRows.lookup x.origin=none):Extern.findNext x=none:=by
 show ((Extern.allNextRows.lookup x.name).map (· x.params x.resultTypes) <|> (Extern.allNextRows.lookup x.origin).map (· x.params x.resultTypes))=none
 rw [hn,h1,h2];rfl
omit U in
theorem Ka {x:Func} {n:String} {g:Array Value→Sem Value} (hn:x.name=n) (h1:Extern.allGenericRows.lookup n=none) (h2:Extern.allTypedRows.lookup n=none) (h3:Extern.allRows.lookup n=some g):Extern.find x=some g:=by
 show (((Extern.allGenericRows.lookup x.name).map (· x.targs x.params x.resultTypes) <|> (Extern.allTypedRows.lookup x.name).map (· x.params x.resultTypes) <|> Extern.allRows.lookup x.name) <|> ((Extern.allGenericRows.lookup x.origin).map (· x.targs x.params x.resultTypes) <|> (Extern.allTypedRows.lookup x.origin).map (· x.params x.resultTypes) <|> Extern.allRows.lookup x.origin))=some g
 rw [hn,h1,h2,h3];rfl
omit U in
theorem I2:∀(l:List Orc) (f:Nat) (x:List Orc),(Xn l).get f=some x→∀e∈x,e∈l
 |[],f,x,h=>by rw [Xn,T.get_nil] at h;cases h
 |a::l,f,x,h=>by
  unfold Xn e9 at h;intro e he;cases hq:(Xn l).get a.f with
  |none=>
   rw [hq] at h;simp only [T.get_set] at h;split at h
   ·cases h;simp only [vv] at he;subst he;exact Aef
   ·exact Ad8 _ (I2 l f x h e he)
  |some y=>
   rw [hq] at h;simp only [T.get_set] at h;split at h
   ·cases h;rcases gk.1 he with q|q
    ·rw [q];exact Aef
    ·exact Ad8 _ (I2 l a.f y hq e q)
   ·exact Ad8 _ (I2 l f x h e he)
theorem OK.of {P:Program} {l:List Orc} {m:List Sm} (hm:P.follows .mixedOrders=true) (hc:P.funcs.toList.all Xd=true) (hk:U.K=(Env.of P).kinds):OK (Env.ofS P l m):=by
 have I:∀f x,(Env.ofS P l m).fn.get f=some x→P.funcs[f]?=some x:=by
  intro f x h;rw [Env.ofS,T.get_ofList] at h;simpa using h
 have r:∀f x,(Env.ofS P l m).fn.get f=some x→Xd x=true:=by
  intro f x h;have:=I f x h
  exact List.all_eq_true.1 hc x (by
   have h2:P.funcs.toList[f]?=some x:=by simpa using this
   exact rc h2)
 refine ⟨fun t i h=>?_,I,fun f x h=>?_,fun f x h J hn=>?_,fun f x h J hn=>?_,fun f x h J hn=>?_,hm,hk,rfl,rfl,fun f x h=>I2 l f x h⟩
 ·rw [Env.ofS,T.get_ofList] at h;have h2:P.types[t]?=some i:=by simpa using h
  have al:t<P.types.size:=(Array.getElem?_eq_some_iff.1 h2).1;show P.info? t=some i;simp only [Tables.info?,if_pos al];exact h2
 ·have:=r f x h;simp only [Xd,F4,Aed] at this;exact this.1
 ·have q:=r f x h;have ho:Extern.allNextRows.lookup x.origin=none:=by simpa [Xd,J,hn] using q
  exact ⟨E4 hn Wu ho,Ka hn XF Tu ZF⟩
 ·have q:=r f x h;have ho:Extern.allNextRows.lookup x.origin=none:=by simpa [Xd,J,hn] using q
  exact ⟨E4 hn cE ho,Ka hn jL YQ kQ⟩
 ·have q:=r f x h;have ho:Extern.allNextRows.lookup x.origin=none:=by simpa [Xd,J,hn] using q
  exact ⟨E4 hn eu ho,Ka hn kY aB iX⟩
theorem Ad.none {P:Program} {F:Nat→D→D}:Ad (Env.ofO P []) F:=⟨fun e he=>(by cases he),fun e he=>(by cases he)⟩
theorem Ad.add {P:Program} {l:List Orc} {m:List Sm} {e:Orc} {N:Nat} (hE:∀[U:Unk],U.K=(Env.of P).kinds→OK (Env.ofS P l m)) {G:Nat→D→D} (hO:Ad (Env.ofS P l m) G) (h:∀[F:Facts],T5 (Env.ofS P l m) N e=true):Ad (Env.ofS P (e::l) m) G:=by
 refine ⟨fun x r=>?_,hO.sms⟩
 rcases gk.1 r with rfl|r
 ·exact Orc.valid (E:=Env.ofS P l m) hE hO h
 ·exact hO.orc x r
theorem Ad.cons {P:Program} {l:List Orc} {m:List Sm} {e:Orc} {G:Nat→D→D} (h:e.Valid P G) (hO:Ad (Env.ofS P l m) G):Ad (Env.ofS P (e::l) m) G:=
 ⟨fun x r=>(gk.1 r).elim (fun q=>q▸h) (fun q=>hO.orc x q),hO.sms⟩
theorem Ad.val {P:Program} {l:List Orc} {e:Orc} {N:Nat} (hE:∀[U:Unk],U.K=(Env.of P).kinds→OK (Env.ofS P l [])) {G:Nat→D→D} (hO:Ad (Env.ofS P l []) G) (h:∀[F:Facts],Dn (Env.ofS P l []) N e=true):e.Valid P G:=
 Orc.validG (E:=Env.ofS P l []) hE hO h
end Go.AE
namespace Go.AE
variable [Gl:AC]
abbrev iN (n:Nat):AV:=.int .i64 (.ofNat n)
abbrev pN (b:Nat):AV:=.ptr b 0
abbrev ceL (n:Nat) (a:List (List AV)):Am:=.cells n (T.ofList a.flatten)
structure Cor where
 f:FuncId
 nt:Nat
 td:List AI
 tmps:T AV
 part:T Am
 nx:Nat
 ok:Bool
 v:AV
 out:T Am
 nx':Nat
 wr:List Nat
def Cor.heap (K:Cor):Aa:={blk:=K.part,nx:=K.nx,log:=[]}
def Cor.cx (K:Cor):CX:=⟨K.f,K.nt,[],.normal,none,[]⟩
def Cor.st (K:Cor):QSt:=.k K.td.tail K.tmps K.heap K.cx
def bZ:List AI→List AI→Bool
 |[],[]=>true
 |a::r,b::s=>hY a b&&bZ r s
 |_,_=>false
def TV (K:Cor) (X:CX):Bool:=Nat.beq X.fn K.f&&Nat.beq X.nt K.nt&&X.defers.isEmpty&&X.round.isNone&&X.cs.isEmpty&&(match X.kind with|.normal=>true|_=>false)
def Cor.base (K:Cor):FuncId→Bool→QSt→R3:=fun f l st=>match st with
 |.k td tmps h X=>match !l&&Nat.beq f K.f&&TV K X&&Nat.beq h.nx K.nx&&Nat.ble K.nx K.nx'&&bZ td K.td.tail&&Kw K.tmps tmps&&Nu K.part h.blk with
  |true=>some (K.ok,K.v,AY h {blk:=K.out,nx:=K.nx',log:=K.wr})
  |false=>none
 |_=>none
section
variable [U:Facts]
def Im (E:Env) (b:FuncId→Bool→QSt→R3) (N:Nat) (K:Cor):Bool:=
 match goB E b (cfN E 40) N K.f false K.st with
 |some (ok,v,g)=>(ok==K.ok)&&By v K.v&&Nu K.out g.blk&&Nat.beq g.nx K.nx'&&W1 K.nx K.wr g.log
 |none=>false
end
def Cor.Valid (P:Program) (F:Nat→D→D) (K:Cor):Prop:=
 ∀[U:Unk],U.K=(Env.of P).kinds→U.V.fn=F→∀(r:Ren) (c:Frame) (w:World),SR r K.st.as c [] w→WF K.heap→AX r K.nx K.nx'→
  ∀base:List Frame,∃t l J w1 I g,Steps P (lone c base w) (lone l base w1)∧l.fn=K.f∧l.roundOf=none∧Jf P l w1 K.ok J I∧VR t K.v J∧HR t g.blk.get I∧
   Ext r t K.heap g w I∧(∀b x,K.out.get b=some x→g.blk.get b=some x)∧g.nx=K.nx'∧(∀b∈g.log,b<K.nx→b∈K.wr)
theorem VE:∀{a b:List AI},bZ a b=true→a=b
 |[],[],_=>rfl
 |a::r,b::s,h=>by
  simp only [bZ,F4] at h;rw [dm h.1,VE h.2]
 |[],_::_,h=>by cases h
 |_::_,[],h=>by cases h
theorem W4 {K:Cor} {X:CX} (h:TV K X=true):X=K.cx:=by
 unfold TV at h;simp only [F4] at h;obtain ⟨⟨⟨⟨⟨b,c⟩,d⟩,e⟩,g⟩,a⟩:=h;obtain ⟨fn,nt,i,kind,round,cs⟩:=X;have j:fn=K.f:=L2 b;have k:nt=K.nt:=L2 c;have l:i=[]:=by simpa using d
 have m:round=none:=by simpa using e
 have n:cs=[]:=by simpa using g
 have o:kind=.normal:=by
  simp only at a;split at a
  ·rfl
  ·cases a
 subst j k l m n o;rfl
theorem Cor.base_mono (K:Cor):∀l r st x,K.base l r st=some x→st.as.h.nx≤x.2.2.nx:=by
 intro l r st x h;unfold Cor.base at h;split at h
 ·rename_i td tmps I X;split at h
  ·rename_i t;cases h;simp only [F4] at t;obtain ⟨⟨⟨⟨⟨_,J⟩,h5⟩,_⟩,_⟩,_⟩:=t;have e4:=L2 J;have e5:=hP h5;show I.nx≤K.nx';omega
  ·cases h
 ·cases h
theorem Cor.base_ok {E:Env} {K:Cor} {F:Nat→D→D} (hv:K.Valid E.P F) [U:Unk] (hK:U.K=(Env.of E.P).kinds) (hF:U.V.fn=F):BOK E K.base:=by
 intro f0 rd st ρ c al w ok v h I t r J base;unfold Cor.base at r;split at r
 ·rename_i td tmps hh X;split at r
  ·rename_i hb;cases r;simp only [F4,Aed] at hb;obtain ⟨⟨⟨⟨⟨⟨⟨h1,h2⟩,h3⟩,h4⟩,h5⟩,h6⟩,h7⟩,h8⟩:=hb;have e2:f0=K.f:=L2 h2;have e3:=W4 h3;have e4:hh.nx=K.nx:=L2 h4;have e6:=VE h6;subst e3 e6
   have an:al=[]:=by
    have:=I.cs;generalize hq:((QSt.k K.td tmps hh K.cx).as).cs=q at this;have hq:[]=q:=hq;subst hq;cases this;rfl
   subst an;have t:WF hh:=t
   have ar:FrR ρ K.st.as.fr c:=by
    have q:=I.fr;exact ⟨q.fn,⟨q.tm.size,fun i x r=>q.tm.get i x (G0 h7 i x r)⟩,q.todo,q.defers,q.mode,q.kind,q.round⟩
   have hr:HR ρ hh.blk.get w:=I.h
   have av:WF K.heap:=fun b hb=>by
    show K.part.get b=none;cases hp:K.part.get b with
    |none=>rfl
    |some x=>
     have q:=Dc h8 b x hp;rw [t b (by rw [e4];exact hb)] at q
     cases q
   have l:AX ρ hh.nx K.nx':=J;obtain ⟨σ,cf,v',w1,w',g,q1,q2,q3,q4,q5,q6,q7,q8,q9,bd⟩:=hv hK hF ρ c w ⟨ar,.nil,hr.weaken (fun b x _ r=>Dc h8 b x r)⟩ av (by rw [←e4];exact l) base
   have q7:Ext ρ σ {blk:=K.part,nx:=hh.nx,log:=[]} g w w':=by rw [e4];exact q7
   obtain ⟨m1,m2⟩:=Mw hr t (Dc h8) l q6 q7 q8 q9 (by rw [e4];exact bd)
   exact ⟨σ,cf,v',w1,w',q1,q2.trans e2.symm,fun _=>q3,q4,q5,m1,m2⟩
  ·cases r
 ·cases r
theorem Cor.valid {P:Program} {l:List Orc} {K:Cor} {N:Nat} {G:Nat→D→D} {b:FuncId→Bool→QSt→R3} (hE:∀[U:Unk],U.K=(Env.of P).kinds→OK (Env.ofS P l [])) (hO:Ad (Env.ofS P l []) G)
  (hm:∀f0 rd st x,b f0 rd st=some x→st.as.h.nx≤x.2.2.nx) (hb:∀[U:Unk],U.K=(Env.of P).kinds→U.V.fn=G→BOK (Env.ofS P l []) b) (h:∀[F:Facts],Im (Env.ofS P l []) b N K=true):K.Valid P G:=by
 intro U hK hG ρ c w J al r base;have hE:=hE hK;have an:=hb hK hG;subst hG;have I:=h (F:=U.toFacts);unfold Im at I;split at I
 ·rename_i ok v g t;simp only [F4,beq_iff_eq] at I;obtain ⟨⟨⟨⟨h1,h2⟩,h3⟩,h4⟩,h5⟩:=I;have e4:=L2 h4;obtain ⟨σ,cf,v',w1,w',q1,q2,q3,q4,q5,q6,q7⟩:=Tt hE hO hm an (Yu hE hO 40) N K.f false K.st ρ c [] w ok v g J al t (by show AX ρ K.nx g.nx;rw [e4];exact r) base
  exact ⟨σ,cf,v',w1,w',g,q1,q2,q3 rfl,h1▸q4,D8 _ _ h2▸q5,q6,q7,Dc h3,e4,LF h5⟩
 ·cases I
theorem Cor.last {P:Program} {l:List Orc} {K:Cor} {N:Nat} {G:Nat→D→D} (hE:∀[U:Unk],U.K=(Env.of P).kinds→OK (Env.ofS P l [])) (hO:Ad (Env.ofS P l []) G) (h:∀[F:Facts],Im (Env.ofS P l []) noB N K=true):K.Valid P G:=
 Cor.valid hE hO (b:=noB) (fun _ _ _ _ h=>by cases h) (fun _ _ _ _ _ _ _ _ _ _ _ _ _ _ h=>by cases h) h
theorem Cor.next {P:Program} {l:List Orc} {K r:Cor} {N:Nat} {G:Nat→D→D} (hE:∀[U:Unk],U.K=(Env.of P).kinds→OK (Env.ofS P l [])) (hO:Ad (Env.ofS P l []) G) (t:r.Valid P G) (h:∀[F:Facts],Im (Env.ofS P l []) r.base N K=true):K.Valid P G:=
 Cor.valid hE hO r.base_mono (fun hK I=>Cor.base_ok (E:=Env.ofS P l []) t hK I) h
theorem Orc.first {P:Program} {l:List Orc} {e:Orc} {r:Cor} {N:Nat} {G:Nat→D→D} (hE:∀[U:Unk],U.K=(Env.of P).kinds→OK (Env.ofS P l [])) (hO:Ad (Env.ofS P l []) G) (t:r.Valid P G) (h:∀[F:Facts],HW (Env.ofS P l []) r.base N e=true):e.Valid P G:=
 Orc.validB (E:=Env.ofS P l []) hE hO r.base_mono (fun hK I=>Cor.base_ok (E:=Env.ofS P l []) t hK I) h
end Go.AE
namespace Go.AE
variable [Gl:AC]
open Go.RowKit
def cV [Facts] (j:Nat):Kd→AV
 |.int k=>mkI k (.var j)
 |.bool=>mkB true (.var j)
 |.str=>.ss (.var j)
 |.slice e=>.dat e (.var j)
def JG [Facts]:Nat→List Kd→List AV
 |_,[]=>[]
 |j,k::ks=>cV j k::JG (j+1) ks
def J8:TypeDesc→Bool
 |.struct _=>true
 |_=>false
def Gd [Facts] (E:Env):Nat→List TypeId→Option (List AV)
 |_,[]=>some []
 |j,t::ts=>match E.desc t,E.kinds0 t with
  |some d,some ks=>match Gd E (j+ks.length) ts with
   |some r=>match J8 d with
    |true=>some (.agg (JG j ks)::r)
    |false=>match JG j ks with
     |[a]=>some (a::r)
     |_=>none
   |none=>none
  |_,_=>none
def Bz (E:Env):List TypeId→Option (List Kd)
 |[]=>some []
 |t::ts=>match E.kinds0 t,Bz E ts with
  |some ks,some l=>some (ks++l)
  |_,_=>none
def Ci:Nat→List Kd→List (SB×Bool)
 |_,[]=>[]
 |j,.int k::r=>match decide (k=.i64) with
  |true=>Ci (j+1) r
  |false=>(.lss (.var j) (.c k.min),false)::(.lss (.c k.max) (.var j),false)::Ci (j+1) r
 |j,_::r=>Ci (j+1) r
def inL (e:TypeId):List TypeId→Bool
 |[]=>false
 |f::r=>Nat.beq e f||inL e r
def Ry (L:List TypeId):Kd→Bool
 |.slice e=>inL e L
 |_=>true
def Hr (E:Env) (L:List TypeId):List TypeId→Bool
 |[]=>true
 |e::r=>match E.kinds0 e with
  |some ks=>!ks.isEmpty&&ks.all (Ry L)&&Hr E L r
  |none=>false
inductive DT where
 |leaf
 |split (e:SB) (t f:DT)
def Di (fn:Nat→D→D) (a:List D):Val:={d:=fun j=>a.getD j default,fn}
@[reducible] def XJ (P:Program):Unk:={facts:=[],V:=Di (fun _ d=>d) [],K:=(Env.of P).kinds,R:=[],hR:=fun _ _ _ _ _ h=>by (cases h),ok:=by simp}
def DVL (K:TypeId→Option (List Kd)) (M:Nat→Option (Array Value)):List Kd→List Value→List D→Prop
 |[],[],[]=>True
 |k::ks,v::a,d::b=>DV K M k v d∧DVL K M ks a b
 |_,_,_=>False
theorem DVL.len {K:TypeId→Option (List Kd)} {M:Nat→Option (Array Value)}:∀{ks:List Kd} {l:List Value} {r:List D},DVL K M ks l r→ks.length=l.length∧ks.length=r.length
 |[],[],[],_=>⟨rfl,rfl⟩
 |_::_,_::_,_::_,h=>by have:=DVL.len h.2;simp [this.1.symm,this.2.symm]
def Can:List Kd→List D→Prop
 |.int _::ks,d::a=>(∃n,d=.int n)∧Can ks a
 |.bool::ks,d::a=>(∃n,d=.bool n)∧Can ks a
 |.str::ks,d::a=>(∃n,d=.str n)∧Can ks a
 |.slice _::ks,_::a=>Can ks a
 |_,_=>True
def Fs (K:TypeId→Option (List Kd)):Nat→Kd→D→Prop
 |_,.int _,d=>∃n,d=.int n
 |_,.bool,d=>∃b,d=.bool b
 |_,.str,d=>∃s,d=.str s
 |0,.slice _,_=>True
 |m+1,.slice e,d=>∃nl rows,d=.slc nl rows∧(nl=true→rows=[])∧∀ks,K e=some ks→∀r∈rows,∃cs,r=.row cs∧cs.length=ks.length∧∀(j:Nat) kd,ks[j]?=some kd→Fs K m kd (cs.getD j default)
def Ph (K:TypeId→Option (List Kd)) (m:Nat) (ks:List Kd) (a:List D):Prop:=∀(j:Nat) kd,ks[j]?=some kd→Fs K m kd (a.getD j default)
def leB (o:Option Nat) (n:Nat):Prop:=∀b,o=some b→n≤b
def ShK (K:TypeId→Option (List Kd)) (o:Option Nat):Nat→Kd→D→Prop
 |_,.int _,_=>True
 |_,.bool,_=>True
 |_,.str,d=>leB o d.toStr.data.toList.length
 |0,.slice _,_=>True
 |m+1,.slice e,d=>leB o d.rows.length∧∀ks,K e=some ks→∀i,i<d.rows.length→∀(j:Nat) kd,ks[j]?=some kd→ShK K o m kd ((d.rows.getD i default).cells.getD j default)
def ShL (K:TypeId→Option (List Kd)) (o:Option Nat) (m:Nat) (ks:List Kd) (a:List D):Prop:=∀(j:Nat) kd,ks[j]?=some kd→ShK K o m kd (a.getD j default)
mutual
def Bq {H:Type} (o:Option Nat):DataW H→Prop
 |.lit (.string bytes)=>leB o bytes.length
 |.lit _=>True
 |.nil=>True
 |.ptr _=>True
 |.slice a _=>leB o a.length∧BE o a
 |.agg parts=>BE o parts
 |.iface _ _=>True
 |.map _=>True
 |.held _=>True
def BE {H:Type} (o:Option Nat):List (DataW H)→Prop
 |[]=>True
 |d::r=>Bq o d∧BE o r
end
mutual
theorem Bq.none {H:Type}:∀d:DataW H,Bq none d
 |.lit (.string _)=>by rw [Bq];intro b I;cases I
 |.lit (.bool _)=>by simp [Bq]
 |.lit (.int _ _)=>by simp [Bq]
 |.lit (.float _ _)=>by simp [Bq]
 |.lit .nil=>by simp [Bq]
 |.nil=>by simp [Bq]
 |.ptr _=>by simp [Bq]
 |.slice t _=>by rw [Bq];exact ⟨fun b I=>(by cases I),BE.none t⟩
 |.agg parts=>by rw [Bq];exact BE.none parts
 |.iface _ _=>by simp [Bq]
 |.map _=>by simp [Bq]
 |.held _=>by simp [Bq]
theorem BE.none {H:Type}:∀l:List (DataW H),BE none l
 |[]=>by simp [BE]
 |d::r=>by rw [BE];exact ⟨Bq.none d,BE.none r⟩
end
theorem BE.get {H:Type} {o:Option Nat}:∀{l:List (DataW H)} {i:Nat} {d:DataW H},BE o l→l[i]?=some d→Bq o d
 |x::l,0,d,h,hi=>by
  simp only [No,C2] at hi;subst hi;rw [BE] at h;exact h.1
 |x::l,i+1,d,h,hi=>by
  rw [BE] at h;exact h.2.get (by simpa using hi)
 |[],i,d,h,hi=>by simp at hi
theorem DV.canK {K:TypeId→Option (List Kd)} {M:Nat→Option (Array Value)} {o:Option Nat}:∀(m:Nat) (kd:Kd) (v:Value) (d:D),DV K M kd v d→∃d',DV K M kd v d'∧Fs K m kd d'∧(ShK K o m kd d→ShK K o m kd d')
 |m,.int k,v,d,h=>by
  cases h with
  |int _ n _ J q=>exact ⟨.int n,.int k n _ J rfl,by cases m<;>exact ⟨n,rfl⟩,fun _=>by cases m<;>trivial⟩
 |m,.bool,v,d,h=>by
  cases h with
  |bool b _ q=>exact ⟨.bool b,.bool b _ rfl,by cases m<;>exact ⟨b,rfl⟩,fun _=>by cases m<;>trivial⟩
 |m,.str,v,d,h=>by
  cases h with
  |str b _ q=>exact ⟨.str b,.str b _ rfl,by cases m<;>exact ⟨b,rfl⟩,fun hs=>by cases m<;>(simp only [ShK] at hs ⊢;rw [q] at hs;exact hs)⟩
 |0,.slice e,v,d,h=>⟨d,h,trivial,fun h=>h⟩
 |m+1,.slice e,v,d,h=>by
  cases h with
  |nil _ _ h1 h2=>exact ⟨.slc true [],.nil e _ rfl rfl,⟨true,[],rfl,fun _=>rfl,fun _ _ r J=>by cases J⟩,fun _=>⟨fun b _=>Aec b,fun ks _ i hi=>absurd hi (hH i)⟩⟩
  |empty _ a al _ h1 h2=>exact ⟨.slc false [],.empty e a al _ rfl rfl,⟨false,[],rfl,fun _=>rfl,fun _ _ r J=>by cases J⟩,fun _=>⟨fun b _=>Aec b,fun ks _ i hi=>absurd hi (hH i)⟩⟩
  |slc _ b off n al _ ks arr hk ha hn hc h1 av bm hv=>
   classical
   have key:∀i j,∃x,∀kd,i<n→ks[j]?=some kd→DV K M kd (arr.getD (off+i*ks.length+j) Go.undef) x∧Fs K m kd x∧(ShK K o m kd ((d.rows.getD i default).cells.getD j default)→ShK K o m kd x):=by
    intro i j;cases t:ks[j]? with
    |none=>exact ⟨default,fun kd _ h=>by cases h⟩
    |some kd=>
     by_cases hi:i<n
     ·obtain ⟨x,q1,q2⟩:=DV.canK m kd _ _ (hv i j kd hi t);exact ⟨x,fun bn _ h=>by cases h;exact ⟨q1,q2⟩⟩
     ·exact ⟨default,fun kd _ h=>absurd ‹i<n› hi⟩
   let f:Nat→Nat→D:=fun i j=>Classical.choose (key i j)
   have hf:∀i j kd,i<n→ks[j]?=some kd→DV K M kd (arr.getD (off+i*ks.length+j) Go.undef) (f i j)∧Fs K m kd (f i j)∧(ShK K o m kd ((d.rows.getD i default).cells.getD j default)→ShK K o m kd (f i j)):=fun i j=>Classical.choose_spec (key i j)
   have J:∀i,i<n→((List.range n).map fun i=>D.row ((List.range ks.length).map (f i))).getD i default=.row ((List.range ks.length).map (f i)):=by
    intro i hi;simp [F2,hi]
   have l:∀i j,j<ks.length→((List.range ks.length).map (f i)).getD j default=f i j:=by
    intro i j t;simp [F2,t]
   have an:∀{j:Nat} {kd:Kd},ks[j]?=some kd→j<ks.length:=fun h=>(Id.1 h).1
   refine ⟨.slc false ((List.range n).map fun i=>.row ((List.range ks.length).map (f i))),.slc e b off n al _ ks arr hk ha (by show (List.map _ _).length=n;simp) hc rfl av (fun i hi=>?_) (fun i j kd hi t=>?_),⟨false,_,rfl,(fun h=>by cases h),fun bd I r be=>?_⟩,fun hs=>⟨?_,fun bd I i hi j kd t=>?_⟩⟩
   ·show (((List.range n).map fun i=>D.row ((List.range ks.length).map (f i))).getD i default).cells.length=_
    rw [J i hi];simp [D.cells]
   ·show DV K M kd _ ((((List.range n).map fun i=>D.row ((List.range ks.length).map (f i))).getD i default).cells.getD j default)
    rw [J i hi];show DV K M kd _ (((List.range ks.length).map (f i)).getD j default);rw [l i j (an t)];exact (hf i j kd hi t).1
   ·rw [hk] at I;cases I;obtain ⟨i,hi,e⟩:=List.mem_map.1 be;refine ⟨_,e.symm,by simp,fun j kd t=>?_⟩
    rw [l i j (an t)];exact (hf i j kd (List.mem_range.1 hi) t).2.1
   ·have e:(D.slc false ((List.range n).map fun i=>D.row ((List.range ks.length).map (f i)))).rows.length=d.rows.length:=by rw [hn];simp [D.rows]
    rw [e];exact hs.1
   ·rw [hk] at I;cases I
    have ar:i<n:=by
     have:i<((List.range n).map fun i=>D.row ((List.range ks.length).map (f i))).length:=hi
     simpa using this
    show ShK K o m kd ((((List.range n).map fun i=>D.row ((List.range ks.length).map (f i))).getD i default).cells.getD j default)
    rw [J i ar];show ShK K o m kd (((List.range ks.length).map (f i)).getD j default);rw [l i j (an t)];exact (hf i j kd ar t).2.2 (hs.2 ks hk i (by rw [hn];exact ar) j kd t)
theorem DVL.can {K:TypeId→Option (List Kd)} {M:Nat→Option (Array Value)} {o:Option Nat}:∀{ks:List Kd} {cs:List Value} {xs:List D},DVL K M ks cs xs→ShL K o 9 ks xs→∃r,DVL K M ks cs r∧(Can ks r∧Ph K 9 ks r)∧ShL K o 9 ks r
 |[],[],[],h,_=>⟨[],h,⟨trivial,fun j kd h=>by simp at h⟩,fun j kd h=>by simp at h⟩
 |k::ks,v::vs,d::ds,h,J=>by
  obtain ⟨r,h1,⟨t,h3⟩,h4⟩:=DVL.can (o:=o) h.2 (fun j kd l=>by simpa using J (j+1) kd (by simpa using l))
  obtain ⟨d',q1,I,q3⟩:=DV.canK (o:=o) 9 k v d h.1;refine ⟨d'::r,⟨q1,h1⟩,⟨?_,fun j kd l=>?_⟩,fun j kd l=>?_⟩
  rotate_left 2
  ·cases j with
   |zero=>simp only [No,C2] at l;subst l;exact q3 (J 0 k rfl)
   |succ j=>simpa using h4 j kd (by simpa using l)
  ·cases k with
   |int k=>exact ⟨I,t⟩
   |bool=>exact ⟨I,t⟩
   |str=>exact ⟨I,t⟩
   |slice e=>exact t
  ·cases j with
   |zero=>simp only [No,C2] at l;subst l;exact I
   |succ j=>simpa using h3 j kd (by simpa using l)
theorem ShL.append {K:TypeId→Option (List Kd)} {o:Option Nat} {m:Nat} {ks ks':List Kd} {xs xs':List D} (r:ks.length=xs.length) (h:ShL K o m ks xs) (h':ShL K o m ks' xs'):ShL K o m (ks++ks') (xs++xs'):=by
 intro j kd l;rcases gg j ks.length with c|c
 ·rw [R2 c] at l;have:=h j kd l;simpa [F2,R2 (show j<xs.length by omega)] using this
 ·rw [Ts c] at l;have:=h' (j-ks.length) kd l;simpa [F2,Ts (show xs.length≤j by omega),←r] using this
theorem Ph.append {K:TypeId→Option (List Kd)} {m:Nat} {ks ks':List Kd} {xs xs':List D} (r:ks.length=xs.length) (h:Ph K m ks xs) (h':Ph K m ks' xs'):Ph K m (ks++ks') (xs++xs'):=by
 intro j kd l;rcases gg j ks.length with c|c
 ·rw [R2 c] at l;have:=h j kd l;simpa [F2,R2 (show j<xs.length by omega)] using this
 ·rw [Ts c] at l;have:=h' (j-ks.length) kd l;simpa [F2,Ts (show xs.length≤j by omega),←r] using this
theorem Can.append {K:TypeId→Option (List Kd)} {M:Nat→Option (Array Value)}:∀{ks ks':List Kd} {cs:List Value} {xs xs':List D},DVL K M ks cs xs→Can ks xs→Can ks' xs'→Can (ks++ks') (xs++xs')
 |[],_,[],[],_,_,_,h'=>h'
 |.int _::_,_,_::_,_::_,_,l,h,h'=>⟨h.1,Can.append l.2 h.2 h'⟩
 |.bool::_,_,_::_,_::_,_,l,h,h'=>⟨h.1,Can.append l.2 h.2 h'⟩
 |.str::_,_,_::_,_::_,_,l,h,h'=>⟨h.1,Can.append l.2 h.2 h'⟩
 |.slice _::ks,ks',_::cs,_::xs,xs',l,h,h'=>Can.append (ks:=ks) (ks':=ks') (cs:=cs) (xs:=xs) (xs':=xs') l.2 h h'
theorem DVL.append {K:TypeId→Option (List Kd)} {M:Nat→Option (Array Value)}:∀{ks ks':List Kd} {t l:List Value} {I r:List D},DVL K M ks t I→DVL K M ks' l r→DVL K M (ks++ks') (t++l) (I++r)
 |[],_,[],_,[],_,_,h=>h
 |_::_,_,_::_,_,_::_,_,h,h'=>⟨h.1,DVL.append h.2 h'⟩
theorem DVL.get {K:TypeId→Option (List Kd)} {M:Nat→Option (Array Value)}:∀{ks:List Kd} {t:List Value} {I:List D},DVL K M ks t I→∀{j:Nat} {k:Kd} {d:D},ks[j]?=some k→I[j]?=some d→∃v,t[j]?=some v∧DV K M k v d
 |[],[],[],_,j,k,d,h,_=>by simp at h
 |_::_,_::_,_::_,h,0,k,d,l,r=>by
  simp only [No,C2] at l r;subst l;subst r;exact ⟨_,rfl,h.1⟩
 |_::_,_::_,_::_,h,j+1,k,d,l,r=>by
  simp only [eq] at l r ⊢;exact DVL.get h.2 l r
theorem KS [U:Unk] (ρ:Ren):∀(ks:List Kd) (q:List Value) (g:List D) (j:Nat),(∀i,i<g.length→U.V.d (j+i)=g.getD i default)→DVL U.K ρ.imm ks q g→VL ρ (JG j ks) q
 |[],[],[],_,_,_=>VL.nil ρ
 |k::ks,v::q,d::g,j,hi,h=>by
  have u:U.V.d j=d:=by have:=hi 0 (by simp);simpa using this
  refine VL.cons ?_ (KS ρ ks q g (j+1) (fun i B=>by have:=hi (i+1) (by simp;omega);rw [show j+1+i=j+(i+1) by omega,this];simp) h.2)
  have l:=h.1;have w:Ab U.V (.var j)=d:=u;rw [←w] at l;generalize f:Ab U.V (.var j)=C at l;cases l with
  |int k n _ E m=>
   have:=Cb ρ k (.var j);have e:Ac U.V (.var j)=n:=by unfold Ac;rw [f];exact m
   rw [e] at this;exact this
  |bool b _ m=>
   have:=GV ρ true (.var j);have e:(Ah U.V (.var j)==true)=b:=by unfold Ah;rw [f,m];cases b<;>rfl
   rw [e] at this;exact this
  |str s _ m=>
   have:=VR.ss (ρ:=ρ) (.var j);have e:AT U.V (.var j)=s:=by unfold AT;rw [f];exact m
   rw [e] at this;exact this
  |nil e _ o r=>exact .dat e (.var j) _ _ _ (by rw [f];exact .nil e _ o r)
  |empty e a c _ o r=>exact .dat e (.var j) _ _ _ (by rw [f];exact .empty e a c _ o r)
  |slc e b off n c _ ks arr l x y z o t p A=>exact .dat e (.var j) _ _ _ (by rw [f];exact .slc e b off n c _ ks arr l x y z o t p A)
theorem HL [U:Unk] {K:TypeId→Option (List Kd)} {M:Nat→Option (Array Value)} {V:Val}:∀(ks:List Kd) (g:List Value) (c:List D) (j:Nat),(∀i,i<c.length→V.d (j+i)=c.getD i default)→DVL K M ks g c→∀e b,(e,b)∈Ci j ks→Ah V e=b
 |[],[],[],_,_,_,e,b,a=>by simp [Ci] at a
 |k::ks,v::g,d::c,j,hi,h,e,b,a=>by
  have o:V.d j=d:=by have:=hi 0 (by simp);simpa using this
  have ih:=HL ks g c (j+1) (fun i r=>by have:=hi (i+1) (by simp;omega);rw [show j+1+i=j+(i+1) by omega,this];simp) h.2 e b
  have l:=h.1;cases l with
  |int k n _ p q=>
   have m:(Ab V (.var j)).toInt=n:=by simp only [Ab,o];exact q
   simp only [Ci] at a;split at a
   ·exact ih a
   ·rename_i l;have f:=p.resolve_left (by simpa using l)
    simp only [gk,hS] at a;rcases a with ⟨rfl,rfl⟩|⟨rfl,rfl⟩|a
    ·rw [Ay,tl];simp only [Ac];rw [m];show ¬_<_;have:=f.1;have:=f.2;simp only [Ab,D.toInt];omega
    ·rw [Ay,tl];simp only [Ac];rw [m];show ¬_<_;have:=f.1;have:=f.2;simp only [Ab,D.toInt];omega
    ·exact ih a
  |bool=>exact ih a
  |str=>exact ih a
  |nil=>exact ih a
  |empty=>exact ih a
  |slc=>exact ih a
def FZ (w:World) (k:Nat):Option (Array Value):=match w.heap[k]? with
 |some (.cells c _ _)=>some c
 |_=>none
theorem Of {w:World} {a:Addr} {v:Value} (h:w.cell? a=some v):∃arr,FZ w a.block=some arr∧a.spot=none∧arr[a.off]?=some v:=by
 unfold World.cell? at h;unfold FZ;split at h
 ·rename_i c _ _ d;rw [d];split at h
  ·cases h
  ·rename_i b;refine ⟨c,rfl,?_,h⟩;cases e:a.spot with
   |none=>rfl
   |some x=>rw [e] at b;simp at b
 ·cases h
theorem LL {w:World} {base n:Nat} {a:Addr} {cs:List Value} (h:w.cells? base a n=some cs) (p:0<n):∃arr,FZ w a.block=some arr∧a.spot=none∧cs.length=n∧∀j,j<n→arr[a.off+j]?=cs[j]?:=by
 unfold World.cells? at h;split at h
 ·have i:cs.length=n:=by simpa using mapM_some_length h
  have k:∀j,j<n→w.cell? (a.add j)=cs[j]?:=fun j c=>mapM_some_get h j j (by simp [c])
  have d:=k 0 p;have l:a.add 0=a:=by simp [Addr.add]
  rw [l] at d;have e:cs[0]?=some cs[0]:=by simp
  rw [e] at d;obtain ⟨arr,f,q,r⟩:=Of d;refine ⟨arr,f,q,i,fun j c=>?_⟩
  have b:=k j c;have g:cs[j]?=some cs[j]:=by simp [i,c]
  rw [g] at b ⊢;obtain ⟨m,p1,p2,p3⟩:=Of b;by_cases o:j=0
  ·subst o;rw [l] at p1 p3;rw [f] at p1;cases p1;exact p3
  ·simp only [Addr.add,if_neg o] at p1 p3;rw [f] at p1;cases p1;exact p3
 ·cases h
theorem KF {P:Nat→D→Prop}:∀(n:Nat),(∀i,i<n→∃d,P i d)→∃l:List D,l.length=n∧∀i,i<n→∃d,l[i]?=some d∧P i d
 |0,_=>⟨[],rfl,fun i hi=>by omega⟩
 |n+1,h=>by
  obtain ⟨l,a,b⟩:=KF n (fun i hi=>h i (by omega))
  obtain ⟨d,c⟩:=h n (by omega)
  refine ⟨l++[d],by simp [a],fun i hi=>?_⟩
  by_cases e:i<n
  ·obtain ⟨x,f,g⟩:=b i e;exact ⟨x,by rw [R2 (by omega)];exact f,g⟩
  ·have:i=n:=by omega
   subst this;exact ⟨d,by rw [Ts (by omega),a];simp,c⟩
theorem MN {a:TypeId→Nat→Bool} {b c:TypeId→Option (List Kd)} (h:∀t ks,b t=some ks→c t=some ks):∀(fs:List Field) (off:Nat) (ks:List Kd),EK a b fs off=some ks→EK a c fs off=some ks
 |[],_,_,q=>q
 |f::r,off,ks,q=>by
  simp only [EK] at q ⊢;split at q
  ·rename_i j d e;rw [h _ _ e];split at q
   ·rename_i l2 g i;simp only [d,g,MN h r _ _ i];exact q
   ·cases q
  ·cases q
theorem OF {desc:TypeId→Option TypeDesc} {a:TypeId→Nat→Bool}:∀(n:Nat) (t:TypeId) (ks:List Kd),DZ false desc a n t=some ks→DZ true desc a n t=some ks
 |0,_,_,h=>h
 |n+1,t,ks,h=>by
  have key:∀l,JY false a (DZ false desc a n) (desc t)=some l→JY true a (DZ true desc a n) (desc t)=some l:=by
   intro l q;cases b:desc t with
   |none=>rw [b] at q;exact q
   |some d=>
    rw [b] at q;cases d<;>first|exact q|skip
    ·simp [JY] at q
    ·exact MN (OF n) _ _ _ q
  simp only [DZ] at h ⊢;split at h
  ·rename_i l c;rw [key l c];exact h
  ·cases h
theorem Xq {E:Env} {t:TypeId} {ks:List Kd} (h:E.kinds0 t=some ks):E.kinds t=some ks:=OF 20 t ks h
theorem YA {E:Env} {L:List TypeId}:∀{l:List TypeId} {e:TypeId},Hr E L l=true→inL e l=true→∃ks,E.kinds0 e=some ks∧ks≠[]∧ks.all (Ry L)=true
 |[],e,_,h=>by simp [inL] at h
 |f::r,e,a,h=>by
  simp only [Hr] at a;split at a
  ·rename_i ks b;simp only [F4,Aed,List.isEmpty_eq_false_iff] at a;simp only [inL,vy] at h;rcases h with h|h
   ·rw [Ax h];exact ⟨ks,b,a.1.1,a.1.2⟩
   ·exact YA a.2 h
  ·cases a
section
variable {E:Env} {L:List TypeId} {H:Type} {enc:TypeId×Value→H} {w:World} {base:Nat} {sp:Nat→Bool} {held:Bool}
theorem If [U:Unk] (hE:OK E) {t:TypeId} {n:Nat} (h:E.szIs t n=true):E.P.cellsOf t=n:=by
 unfold Env.szIs at h;cases hi:E.ty.get t with
 |none=>rw [hi] at h;cases h
 |some i=>rw [hi] at h;simp [Program.cellsOf,hE.ty t i hi,Ax h]
theorem Un [U:Unk] (hE:OK E) {rec_:TypeId→Option (List Kd)} {o:Option Nat} {m:Nat} {cs:List Value} (b:∀t ks cs x,rec_ t=some ks→ks.all (Ry L)=true→DataW.trod enc E.P w base sp held m t cs=some x→Bq o x.1→∃c,DVL E.kinds (FZ w) ks cs c∧∀q,ShL E.kinds o q ks c) :
  ∀(fs:List Field) (off:Nat) (ks:List Kd),EK E.szIs rec_ fs off=some ks→ks.all (Ry L)=true→(∀f∈fs,∃x,DataW.trod enc E.P w base sp held m f.type ((cs.drop f.offset).take (E.P.cellsOf f.type))=some x∧Bq o x.1)→∃c,DVL E.kinds (FZ w) ks ((cs.drop off).take ks.length) c∧∀q,ShL E.kinds o q ks c:=by
 intro fs
 induction fs with
 |nil=>intro off ks h _ _;simp [EK] at h;subst h;exact ⟨[],by simp [DVL],fun q j kd h=>by simp at h⟩
 |cons f r ih=>
  intro off ks h a p;simp only [EK] at h;split at h
  ·rename_i k1 s u;split at h
   ·rename_i l v y;cases h;rw [List.all_append,F4] at a;obtain ⟨x,g,i⟩:=p f (by simp)
    have d:=Ax s;have k:=If hE v;obtain ⟨d1,n,z⟩:=b _ _ _ _ u a.1 g i;rw [k,d] at n;obtain ⟨d2,A,B⟩:=ih _ _ y a.2 (fun f C=>p f (by simp [C]))
    have e:(cs.drop off).take (k1++l).length=(cs.drop off).take k1.length++(cs.drop (off+k1.length)).take l.length:=by
     rw [la,List.take_add,List.drop_drop]
    rw [e];exact ⟨d1++d2,n.append A,fun q=>(z q).append n.len.2 (B q)⟩
   ·cases h
  ·cases h
theorem ZW [U:Unk] (hE:OK E) (hL:Hr E L L=true) {o:Option Nat}:∀(m n:Nat) (t:TypeId) (ks:List Kd) (cs:List Value) (x:DataW H×List MemPlace),DZ false E.desc E.szIs n t=some ks→ks.all (Ry L)=true→DataW.trod enc E.P w base sp held m t cs=some x→Bq o x.1→∃g,DVL E.kinds (FZ w) ks cs g∧∀q,ShL E.kinds o q ks g:=by
  intro m
  have one:∀{kd:Kd} {d:D},(∀q,ShK E.kinds o q kd d)→∀q,ShL E.kinds o q [kd] [d]:=by
    intro kd d h q j am z;cases j with
    |zero=>simp only [No,C2] at z;subst z;exact h q
    |succ j=>simp at z
  induction m using Nat.strongRecOn with
  |_ m ih=>
    intro n t ks cs x Z C r p;obtain ⟨ab,n',rfl,h⟩:=kinds_size Z;clear Z;cases hd:E.desc t with
    |none=>rw [hd] at h;cases h
    |some d=>
      have K:=hE.und hd;rw [hd] at h;cases m with
      |zero=>simp [DataW.trod] at r
      |succ m=>
      cases d<;>first | (cases h;done)|skip
      case bool=>
        cases h;unfold DataW.trod at r;rw [K] at r;split at r<;>simp_all
        exact ⟨[.bool _],⟨.bool _ _ rfl,trivial⟩,one fun q=>by cases q<;>trivial⟩
      case int k=>
        cases h;unfold DataW.trod at r;rw [K] at r
        have go:∀{M:IntKind} {n:Int},(M=k∧(Lit.int k n).wf=true)→∃g,DVL E.kinds (FZ w) [.int k] [.int M n] g∧∀q,ShL E.kinds o q [.int k] g:=by
          rintro M n ⟨rfl,hw⟩
          have hb:M.min≤n∧n≤M.max:=by simpa [Lit.wf] using hw
          exact ⟨[.int n],⟨.int _ _ _ (.inr hb) rfl,trivial⟩,one fun q=>by cases q<;>trivial⟩
        split at r<;>first | (cases r;done)|skip
        all_goals
          first
            | (split at r
               · rename_i hq;simp_all
               · cases r)
            |simp_all
      case string=>
        cases h;unfold DataW.trod at r;rw [K] at r;split at r<;>first | (simp at r;done)|skip
        all_goals first
          | (rename_i hh;cases hh;done)
          | (rename_i hh _;cases hh;done)
          |skip
        all_goals
          rename_i s _;split at r
          · simp only [C2] at r
            subst r;exact ⟨[.str s],⟨.str _ _ rfl,trivial⟩,one fun q=>by cases q<;>(simp only [Bq] at p;exact p)⟩
          · cases r
      case slice e=>
        cases h;simp only [List.all_cons,List.all_nil,Bool.and_true,Ry] at C;obtain ⟨ke,A,ac,N⟩:=YA hL C;have F:=Xq A;rcases DataW.trod_slice K r with ⟨rfl,_⟩|⟨a,len,O,l,rest,q,hq,rfl,Q,hb,hl,hc,u,R,_,_⟩
        · exact ⟨[.slc true []],⟨.nil e _ rfl rfl,trivial⟩,one fun q=>by cases q<;>first|trivial|exact ⟨fun b _=>Aec b,fun _ _ i hi=>absurd hi (hH i)⟩⟩
        · by_cases Z:len=0
          · subst Z
            exact ⟨[.slc false []],⟨.empty e a O _ rfl rfl,trivial⟩,one fun q=>by cases q<;>first|trivial|exact ⟨fun b _=>Aec b,fun _ _ i hi=>absurd hi (hH i)⟩⟩
          · have ad:E.P.cellsOf e=ke.length:=If hE (kinds_size F).1
            have B:0<ke.length:=by cases ke with|nil=>exact absurd rfl ac|cons=>simp
            rw [ad] at R
            obtain ⟨rows,r1,r2⟩:=KF (P:=fun i d=>∃g cells,d=.row g∧w.cells? base (a.add (i*ke.length)) ke.length=some cells∧DVL E.kinds (FZ w) ke cells g∧∀q,ShL E.kinds o q ke g) len (by
              intro i hi;have:=R i hi;have he:l[i]?=some l[i]:=by simp [u,hi]
              rw [he] at this;simp only [Option.bind_eq_some_iff] at this;obtain ⟨cells,c1,c2⟩:=this
              have ae:Bq o (l[i]).1:=by
                rw [Q] at p;simp only [Bq] at p;exact p.2.get (i:=i) (by simp [u,hi])
              obtain ⟨g,af,S⟩:=ih q (by omega) 20 e ke cells _ A N c2 ae
              exact ⟨.row g,g,cells,rfl,c1,af,S⟩)
            obtain ⟨_,_,an,aa,_,c0,_⟩:=r2 0 (by omega)
            have ea:a.add (0*ke.length)=a:=by simp [Addr.add]
            rw [ea] at c0;obtain ⟨arr,s1,s2,_,s4⟩:=LL c0 B;have T:a=⟨a.block,a.off,none⟩:=by cases a;simp at s2;simp [s2]
            have key:∀i,i<len→∃g cells,rows[i]?=some (.row g)∧(DVL E.kinds (FZ w) ke cells g∧∀q,ShL E.kinds o q ke g)∧∀j,j<ke.length→arr[a.off+i*ke.length+j]?=cells[j]?:=by
              intro i hi;obtain ⟨d,G,g,cells,y,V,g4,g5⟩:=r2 i hi;subst y;refine ⟨g,cells,G,⟨g4,g5⟩,?_⟩;obtain ⟨al,t1,t2,_,t4⟩:=LL V B;by_cases hz:i*ke.length=0
              · rw [hz] at t1 t4 ⊢
                have e0:a.add 0=a:=by simp [Addr.add]
                rw [e0] at t1 t4;rw [s1] at t1;cases t1;simpa using t4
              · simp only [Addr.add,if_neg hz] at t1 t4
                rw [s1] at t1;cases t1;exact t4
            refine ⟨[.slc false rows],⟨?_,trivial⟩,one fun q=>by
              cases q with
              |zero=>trivial
              |succ q=>
                refine ⟨by
                  rw [Q] at p;simp only [Bq] at p;have e:(D.slc false rows).rows.length=l.length:=by rw [u];exact r1
                  rw [e];exact (show (l.map (·.1)).length=l.length from List.length_map _)▸p.1,fun ag ah i hi j kd z=>?_⟩
                have ai:ag=ke:=Option.some.inj (ah.symm.trans F);subst ai;have I:i<len:=by have:i<rows.length:=hi;omega
                obtain ⟨g,cells,G,⟨_,y⟩,_⟩:=key i I;have W:(D.rows (.slc false rows)).getD i default=.row g:=by simp [D.rows,F2,G]
                rw [W];exact y q j kd z⟩
            rw [T];refine .slc e a.block a.off len O (.slc false rows) ke arr F s1 r1 hl rfl ?_ (fun i hi=>?_) ?_
            · obtain ⟨g,cells,_,⟨y,_⟩,V⟩:=key (len-1) (by omega)
              have:=V (ke.length-1) (by omega)
              have ao:=y.len.1;have aj:cells[ke.length-1]?=some (cells[ke.length-1]'(by omega)):=by simp
              rw [aj] at this;have ap:=(Array.getElem?_eq_some_iff.1 this).1
              have:len*ke.length=(len-1)*ke.length+ke.length:=by
                rw [←Nat.succ_mul];congr 1;omega
              omega
            · obtain ⟨g,cells,G,⟨y,_⟩,_⟩:=key i hi
              have W:(D.rows (.slc false rows)).getD i default=.row g:=by simp [D.rows,F2,G]
              rw [W];exact y.len.2.symm
            · intro i j kd hi z
              obtain ⟨g,cells,G,⟨y,_⟩,V⟩:=key i hi;have W:(D.rows (.slc false rows)).getD i default=.row g:=by simp [D.rows,F2,G]
              rw [W];have X:j<ke.length:=(Id.1 z).1
              have ak:g[j]?=some ((D.cells (.row g)).getD j default):=by
                have:j<g.length:=by rw [←y.len.2];exact X
                simp [D.cells,F2,this]
              obtain ⟨v,v1,v2⟩:=y.get z ak;have:=V j X;rw [v1] at this;have ev:arr.getD (a.off+i*ke.length+j) Go.undef=v:=by simp [L1,this]
              rw [ev];exact v2
      case struct fs=>
        simp only [JY] at h;obtain ⟨xs,q,e1,e2,e3,e4,e5⟩:=DataW.trod_struct K r;rw [e2] at p;simp only [Bq] at p
        obtain ⟨g,this,J⟩:=Un hE (L:=L) (o:=o) (m:=q) (cs:=cs) (fun t ks cs x a b c d=>ih q (by omega) n' t ks cs x a b c d) fs.toList 0 ks h C (fun f hf=>by
          obtain ⟨i,hi,rfl⟩:=ud hf;have I:i<fs.size:=by simpa using hi
          have h5:=e5 i fs[i] (by simp [I])
          have Y:i<xs.length:=by omega
          exact ⟨xs[i],by simpa [Y] using h5,p.get (i:=i) (by simp [Y])⟩)
        have u:cs.length=ks.length:=by rw [e3,If hE ab]
        rw [List.drop_zero,←u,List.take_length] at this;exact ⟨g,this,J⟩
theorem dx [U:Unk] (hE:OK E) (hL:Hr E L L=true) {o:Option Nat}:∀(ts:List TypeId) (g:List Value) (k:List (DataW H)) (O:List MemPlace) (ks:List Kd),DataW.TrodAll enc E.P w base sp held ts g k O→
  (∀(j:Nat) t v,ts[j]?=some t→g[j]?=some v→∃r X,Value.okWide E.P w r X t v)→Bz E ts=some ks→ks.all (Ry L)=true→BE o k→
  ∃(cs:List Value) (m:List D),DVL E.kinds (FZ w) ks cs m∧((Can ks m∧Ph E.kinds 9 ks m)∧ShL E.kinds o 9 ks m)∧∀(U:Unk) (j:Nat) (args:List AV) (s:Ren),U.K=E.kinds→s.imm=FZ w→(∀i,i<m.length→U.V.d (j+i)=m.getD i default)→Gd E j ts=some args→VL s args g:=by
 intro ts
 induction ts with
 |nil=>
  intro g k O ks z f u _ _;cases g with
  |nil=>
   simp [Bz] at u;subst u;exact ⟨[],[],trivial,⟨⟨trivial,fun j kd h=>by simp at h⟩,fun j kd h=>by simp at h⟩,fun U j args s _ _ _ b=>by simp [Gd] at b;subst b;exact VL.nil s⟩
  |cons=>cases k<;>simp [DataW.TrodAll] at z
 |cons t ts ih=>
  intro g k O ks z f u x A;cases g with
  |nil=>cases k<;>simp [DataW.TrodAll] at z
  |cons v g=>
   cases k with
   |nil=>simp [DataW.TrodAll] at z
   |cons d k=>
    obtain ⟨p,q,⟨B,hx⟩,Q,_⟩:=z;simp only [Bz] at u;split at u
    ·rename_i k1 l y hl;cases u;rw [List.all_append,F4] at x;obtain ⟨cs,m,q1,qc,q2⟩:=ih g k q l Q (fun j t v ht hv=>f (j+1) t v (by simpa using ht) (by simpa using hv)) hl x.2 A.2
     obtain ⟨x0,C,F⟩:=ZW hE hL (o:=o) B 20 t k1 _ _ y x.1 hx A.1;obtain ⟨x1,c,G,I⟩:=C.can (F 9);refine ⟨v.cells.toList++cs,x1++m,c.append q1,⟨⟨Can.append c G.1 qc.1.1,G.2.append c.len.2 qc.1.2⟩,I.append c.len.2 qc.2⟩,?_⟩;intro Y j args s hK Z n b;obtain ⟨r,X,e⟩:=f 0 t v rfl rfl;have aa:k1.length=x1.length:=c.len.2;simp only [Gd] at b;split at b
     ·rename_i d0 ab hd J;rw [y] at J;cases J;have R:=OK.und (U:=U) hE hd;clear ih;split at b
      ·rename_i rr S
       have tail:=q2 Y (j+k1.length) rr s hK Z (fun i hi=>by
        have:=n (x1.length+i) (by simp only [la];omega)
        rw [show j+k1.length+i=j+(x1.length+i) by omega,this]
        simp [F2,Ts]) S
       have head:=KS (U:=Y) s k1 v.cells.toList x1 j (fun i hi=>by
        have:=n i (by simp only [la];omega)
        rw [this];simp [F2,R2 hi]) (by rw [hK,Z];exact c)
       split at b
       ·rename_i T;cases b;refine VL.cons ?_ tail;cases d0<;>simp [J8] at T
        unfold Value.okWide at e;rw [R] at e;obtain ⟨M,rfl,_⟩:=e;exact .agg _ M.toList head.1 head.2
       ·rename_i T;split at b
        ·rename_i a N;cases b;refine VL.cons ?_ tail;rw [N] at head
         have W:v.cells.toList=[v]:=by
          cases v<;>first|rfl|skip
          rename_i M
          exfalso
          unfold Value.okWide at e;rw [R] at e;obtain ⟨_,_,_,y⟩:=kinds_size y;rw [hd] at y;cases d0<;>simp [J8] at T<;>first | (cases y;done)|skip
          all_goals simp [Cell.okWide,Cell.ok,R] at e
         rw [W] at head;obtain ⟨v',r',e1,e2,_⟩:=head.cons_inv;cases e1;exact e2
        ·cases b
      ·cases b
     ·cases b
    ·cases u
theorem ID.none (h:Gl.tab=.nil) (M:Nat→Option (Array Value)):ID M:=fun g l r=>by rw [h,T.get_nil] at r;cases r
theorem Yv [U:Unk] (w:World) (a:ID (FZ w)):HR ⟨fun _=>none,FZ w⟩ (T.nil:T Am).get w:=by
 refine ⟨fun b base h=>(by cases h),fun b base x h=>(by cases h),fun b i base d _ h=>(by cases h),fun k arr h=>?_,fun k arr b base _ h=>(by cases h),a⟩
 simp only [FZ] at h;split at h
 ·rename_i c e f g;cases h;exact ⟨e,f,g⟩
 ·cases h
end
theorem K0 {H:Type} {enc:TypeId×Value→H} {P:Program} {w:World} {base:Nat} {c:Nat→Bool} {a:Bool}:∀{ts:List TypeId} {d:List Value} {b:List (DataW H)} {e:List MemPlace},DataW.TrodAll enc P w base c a ts d b e→b.length=ts.length
 |[],[],[],_,_=>rfl
 |_::_,_::_,_::_,_,⟨_,_,_,h,_⟩=>by simp [K0 h]
 |[],_::_,_,_,h=>by simp [DataW.TrodAll] at h
 |[],[],_::_,_,h=>by simp [DataW.TrodAll] at h
 |_::_,[],_,_,h=>by simp [DataW.TrodAll] at h
 |_::_,_::_,[],_,h=>by simp [DataW.TrodAll] at h
theorem HS {H:Type} {enc:TypeId×Value→H} {P:Program} (j:laidOutB P=true) {W k:World} (l:Below W.heap.size W k):∀{ts:List TypeId} {e:List Value} {f:List (DataW H)} {c:List MemPlace},
  (∀t∈ts,P.readableRec t=true∧t<P.types.size)→DataW.TrodAll enc P W 0 (fun _=>true) true ts e f c→(∀x∈c,x.block<W.heap.size)→DataW.TrodAll enc P k 0 (fun b=>decide (b<W.heap.size)) true ts e f c
 |[],[],[],_,_,h,_=>h
 |t::ts,v::e,d::f,c,g,⟨p,q,m,n,o⟩,a=>by
  subst o;exact ⟨p,q,Below.trod j (g t (by simp)).1 (g t (by simp)).2 m l (fun x i=>a x (by simp [i])),HS j l (fun t r=>g t (by simp [r])) n (fun x i=>a x (by simp [i])),rfl⟩
 |[],_::_,_,_,_,h,_=>by simp [DataW.TrodAll] at h
 |[],[],_::_,_,_,h,_=>by simp [DataW.TrodAll] at h
 |_::_,[],_,_,_,h,_=>by simp [DataW.TrodAll] at h
 |_::_,_::_,[],_,_,h,_=>by simp [DataW.TrodAll] at h
end Go.AE

