/- What is proved here: an evaluator of the model's steps that the kernel can run, and that whatever it answers is what the model does (part 6 of 7: AeOrc, AeMove, AeLoop, AeRun4, AeQuick, AeFast, AeOK, AeSeg, AeTop). Conditions: those that each theorem states; they hold of no one program. -/
import Derived.Test.YtojjaeaohjlfnaaGreatBeE
import Derived.Eval
import Derived.KernelRfl
import Derived.Carry
import Derived.Handed
set_option linter.unusedVariables false
set_option linter.unusedSectionVars false
set_option linter.unusedSimpArgs false
namespace Go.AE
variable [Gl:AJ]
theorem Di:∀{a b:T Ak},NJ a b=true→∀i x,a.get i=some x→b.get i=some x
 |.nil,_,_,i,x,c=>by simp [T.get_nil] at c
 |.node v l r,.nil,h,_,_,_=>by simp [NJ] at h
 |.node v l r,.node e j k,h,i,x,c=>by
  simp only [NJ,IqQ] at h;obtain ⟨⟨d,f⟩,g⟩:=h;simp only [T.get_eq,T.get0] at c ⊢;split at c
  ·subst c;simp only at d;cases e with
   |none=>simp at d
   |some y=>rw [QV d]
  ·split at c
   ·rw [←T.get_eq] at c ⊢;exact Di f _ _ c
   ·rw [←T.get_eq] at c ⊢;exact Di g _ _ c
theorem VM {b:Nat}:∀{l:List Nat},Mq b l=true→b∈l
 |[],h=>by simp [Mq] at h
 |c::r,h=>by
  simp only [Mq,ws] at h;rcases h with h|h
  ·rw [Mj h];simp
  ·simp [VM h]
theorem LG {nx:Nat} {wr:List Nat}:∀{l:List Nat},WC nx wr l=true→∀b∈l,b<nx→b∈wr
 |[],_,b,a,_=>by cases a
 |c::r,h,b,a,d=>by
  simp only [WC,IqQ,ws] at h;simp only [hP] at a;rcases a with rfl|a
  ·rcases h.1 with e|e
   ·have:=hH e;omega
   ·exact VM e
  ·exact LG h.2 b a d
def Orc.Valid (P:Program) (F:Nat→D→D) (e:Orc):Prop:=
 ∀[U:Unk],U.K=(Env.of P).kinds→U.V.fn=F→∀(r:Ren) (w:World) (l:List Value),VL r e.args l→HR r e.part.get w→WF {blk:=e.part,nx:=e.nx,log:=[]}→AW r e.nx e.nx'→
  ∀(c0:Frame) (base:List Frame),∃t J I g,BK P (lone (Frame.enter P e.f l.toArray .normal) (c0::base) w) c0 base e.ok J I∧VR t e.v J∧HR t g.blk.get I∧
   Ext r t {blk:=e.part,nx:=e.nx,log:=[]} g w I∧(∀b x,e.out.get b=some x→g.blk.get b=some x)∧g.nx=e.nx'∧(∀b∈g.log,b<e.nx→b∈e.wr)
structure Af (E:Env) (F:Nat→D→D):Prop where
 orc:∀e∈E.orc,e.Valid E.P F
 sms:∀s∈E.sms,s.Valid E.P F
variable [U:Unk]
theorem MD {M E:Ren} {h g:Aa} {w w':World} {p out:T Ak} {nx':Nat} {wr:List Nat} (z:HR M h.blk.get w) (F:WF h) (B:∀b x,p.get b=some x→h.blk.get b=some x)
  (G:AW M h.nx nx') (N:HR E g.blk.get w') (o:Ext M E {blk:=p,nx:=h.nx,log:=[]} g w w') (ho:∀b x,out.get b=some x→g.blk.get b=some x) (hn:g.nx=nx') (hl:∀b∈g.log,b<h.nx→b∈wr) :
  HR E (AX h {blk:=out,nx:=nx',log:=wr}).blk.get w'∧Ext M E h (AX h {blk:=out,nx:=nx',log:=wr}) w w':=by
 have r:h.nx≤nx':=by have:=o.nx;rw [hn] at this;exact this
 have s:∀b,p.get b≠none→h.blk.get b≠none:=by
  intro b d;cases t:p.get b with
  |none=>exact absurd t d
  |some x=>rw [B b x t];exact F4 _
 have cls:∀b x,(AX h {blk:=out,nx:=nx',log:=wr}).blk.get b=some x→g.blk.get b=some x∨(b<h.nx∧p.get b=none∧h.blk.get b=some x):=by
  intro b x f;by_cases H:b<h.nx
  ·by_cases I:b∈BH h.nx wr
   ·rcases Hi (h:=h) (g:={blk:=out,nx:=nx',log:=wr}) I with q|⟨_,q⟩
    ·rw [q] at f;cases f
    ·rw [q] at f;exact .inl (ho b x f)
   ·rw [CQ (h:=h) (g:={blk:=out,nx:=nx',log:=wr}) r I (.inl H)] at f;cases t:p.get b with
    |none=>exact .inr ⟨H,rfl,f⟩
    |some y=>
     have e:=B b y t;rw [f] at e;cases e;obtain ⟨l,ab,ac⟩:=o.log;have P:g.log=l:=by rw [ab];exact zJ l
     refine .inl ((ac b (fun e=>I (Cv.2 ⟨hl b (by rw [P];exact e) H,H⟩)) (.inl H)).trans t)
  ·by_cases I:b<nx'
   ·rw [HZ (h:=h) (g:={blk:=out,nx:=nx',log:=wr}) F r (by omega) I] at f
    exact .inl (ho b x f)
   ·rw [Hq (h:=h) (g:={blk:=out,nx:=nx',log:=wr}) F r b (by show nx'≤b;omega)] at f;cases f
 have u:∀b base,E b=some base→b<h.nx→M b=some base:=by
  intro b base d A;rcases o.new b base d with e|⟨e,_⟩
  ·exact e
  ·exact absurd e (by show ¬h.nx≤b;omega)
 have LR:∀b i base a x J,E b=some base→E i=some a→g.blk.get b=some x→i<h.nx→p.get i=none→h.blk.get i=some J→base.cb≠a.cb:=by
  intro b i base a x J d j f A t v;have C:=u i a j A;have Q:h.blk.get i≠none:=by rw [v];exact F4 _
  have R:∀m c,M m=some c→p.get m≠none→c.cb≠a.cb:=fun m c h0 S=>
   z.apart m i c a (fun e=>by subst e;exact S t) h0 C (s m S) Q
  rcases o.new b base d with e|⟨_,_,e⟩
  ·rcases o.live b (by rw [f];exact F4 _) with l|⟨l1,l2⟩
   ·exact R b base e l
   ·have:=G b l1 (by rw [←hn];exact l2)
    rw [this] at e;cases e
  ·rcases e with e|⟨m,c,V,O,W⟩
   ·have:=z.lt i a C;omega
   ·rw [←W];exact R m c V O
 refine ⟨⟨N.lt,fun b base x d f=>?_,fun b i base a X d j H I=>?_,N.imm,fun k arr b base D d hl=>?_,N.glob⟩,⟨o.le,r,fun b base d=>?_,o.calm,fun k D ad=>o.kept k D (fun b base d t=>ad b base d (s b t)),⟨BH h.nx wr,rfl,fun b d ho=>CQ (h:=h) (g:={blk:=out,nx:=nx',log:=wr}) r d ho⟩,fun b d=>G2 (h:=h) (g:={blk:=out,nx:=nx',log:=wr}) F r d,fun k arr D=>(o.imm k arr D).imp id (fun e=>e.imp id (fun ⟨m,c,x1,x2,x3⟩=>⟨m,c,x1,s m x2,x3⟩))⟩⟩
 ·rcases cls b x f with q|⟨A,t,hh⟩
  ·exact N.blk b base x d q
  ·have n:=u b base d A;have D:=o.kept base.cb (z.lt b base n) (fun i a j Y=>z.apart i b a base (fun e=>by subst e;exact Y t) j n (s i Y) (by rw [hh];exact F4 _))
   rw [D];exact (z.blk b base x n hh).mono o.le
 ·cases f:(AX h {blk:=out,nx:=nx',log:=wr}).blk.get b with
  |none=>exact absurd f H
  |some x=>
   cases v:(AX h {blk:=out,nx:=nx',log:=wr}).blk.get i with
   |none=>exact absurd v I
   |some J=>
    rcases cls b x f with q|⟨a1,a2,a3⟩
    ·rcases cls i J v with q'|⟨K,Z,L⟩
     ·exact N.apart b i base a X d j (by rw [q];exact F4 _) (by rw [q'];exact F4 _)
     ·exact LR b i base a x J d j q K Z L
    ·rcases cls i J v with q'|⟨K,Z,L⟩
     ·exact fun e=>LR i b a base J x j d q' a1 a2 a3 e.symm
     ·exact z.apart b i base a X (u b base d a1) (u i a j K) (by rw [a3];exact F4 _) (by rw [L];exact F4 _)
 ·cases f:(AX h {blk:=out,nx:=nx',log:=wr}).blk.get b with
  |none=>exact absurd f hl
  |some x=>
   rcases cls b x f with q|⟨a1,a2,a3⟩
   ·exact N.off k arr b base D d (by rw [q];exact F4 _)
   ·have n:=u b base d a1;have aa:h.blk.get b≠none:=by rw [a3];exact F4 _
    rcases o.imm k arr D with e|e|⟨m,c,V,O,W⟩
    ·exact z.off k arr b base e n aa
    ·have:=z.lt b base n;omega
    ·rw [←W];exact (z.apart m b c base (fun e=>by subst e;exact O a2) V n (s m O) aa).symm
 ·rcases o.new b base d with e|⟨V,O,W⟩
  ·exact .inl e
  ·exact .inr ⟨V,by show b<nx';rw [←hn];exact O,W.imp id (fun ⟨m,c,x1,x2,x3⟩=>⟨m,c,x1,s m x2,x3⟩)⟩
theorem Ext.skip {ρ J:Ren} {h g:Aa} {n:Nat} {w w':World} (t:h.nx≤n) (q:Ext ρ J {h with nx:=n} g w w'):Ext ρ J h g w w':=by
 obtain ⟨l,hl,I⟩:=q.log;have hq:n≤g.nx:=q.nx;exact ⟨q.le,l8 t hq,fun b base r=>(q.new b base r).imp id (fun ⟨a,c,d⟩=>⟨l8 t a,c,d⟩),q.calm,q.kept,⟨l,hl,fun b r ho=>I b r (ho.imp (fun x=>Nat.lt_of_lt_of_le x t) id)⟩,fun b r=>(q.live b r).imp id (fun ⟨a,c⟩=>⟨l8 t a,c⟩),q.imm⟩
theorem Qr {P:Program} {F:Nat→D→D} (C:U.V.fn=F) {f:FuncId} {args:List AV} {a:List Value} {h g:Aa} {ok:Bool} {v:AV} {n:Ren} {w:World}:∀{l:List Orc},(∀e∈l,e.Valid P F)→U.K=(Env.of P).kinds→N7 l f args h=some (ok,v,g)→VL n args a→HR n h.blk.get w→WF h→AW n h.nx g.nx→
  ∀(c0:Frame) (base:List Frame),∃p u s,BK P (lone (Frame.enter P f a.toArray .normal) (c0::base) w) c0 base ok u s∧VR p v u∧HR p g.blk.get s∧Ext n p h g w s
 |[],_,_,j,_,_,_,_=>by simp [N7] at j
 |e::r,hO,hK,j,E,y,t,d=>by
  simp only [N7] at j;split at j
  ·rename_i o;simp only [IqQ] at o;obtain ⟨⟨⟨z,k⟩,G⟩,A⟩:=o;have H:=Mj z
   have B:h.nx≤e.nx:=by
    simp only [ws,IqQ] at k;rcases k with k|k
    ·exact Nat.le_of_eq (Mj k).symm
    ·exact hH k.2
   have I:=Fr _ _ G;subst H;subst I;cases j;intro c0 base;have i:AW n h.nx e.nx':=d;have c:AW n e.nx e.nx':=fun b z k=>i b (l8 B z) k
   have m:WF {h with nx:=e.nx}:=fun b o=>t b (l8 B o)
   obtain ⟨p,u,s,M,a1,a2,a3,a4,a5,a6,a7⟩:=hO e (by simp) hK C n w a E (y.weaken (fun b x _ j=>Di A b x j)) (fun b o=>by
    show e.part.get b=none;cases J:e.part.get b with
    |none=>rfl
    |some x=>
     have q:=Di A b x J;rw [m b o] at q;cases q) c c0 base
   obtain ⟨m1,m2⟩:=MD (h:={h with nx:=e.nx}) y m (Di A) c a3 a4 a5 a6 a7
   exact ⟨p,u,s,a1,a2,m1,m2.skip B⟩
  ·exact Qr C (fun e L=>hO e (by simp [L])) hK j E y t d
section
variable {E:Env} (hE:OK E) (hO:Af E U.V.fn) {ρ:Ren} {w:World} {c:Frame} {ccs:List Frame} {s s':AS}
include hE hO
omit hE hO in
theorem dZ {x:AV} {v:Value} (hx:VR ρ x v):VR ρ (aK x) v:=by
 unfold aK;split
 ·rename_i x;split
  ·rename_i l b hl;have h:=PY U.ok hl;rw [JS] at h;unfold strEq at h;simp only [IqQ] at h;have h1:=Mj h.1;have h2:=Mj h.2;cases hx;rw [←h1,←h2];exact .str _
  ·exact hx
 ·exact hx
omit hE hO in
theorem Yv {l:List AV} {l':List Value} (h:VL ρ l l'):VL ρ (l.map aK) l':=by
 refine ⟨by simp [h.1],fun i a v ha hv=>?_⟩
 rw [sd] at ha;cases hl:l[i]? with
 |none=>rw [hl] at ha;cases ha
 |some x=>rw [hl] at ha;cases ha;exact dZ (h.2 i x v hl hv)
theorem Ez {f:FuncId} {args:List AV} {j:List Value} {h g:Aa} {ok:Bool} {v:AV} (hx:Kz E f args h=some (ok,v,g)) (ha:VL ρ args j) (n:HR ρ h.blk.get w) (k:WF h) (d:AW ρ h.nx g.nx) :
  ∀(c0:Frame) (base:List Frame),∃o u p,BK E.P (lone (Frame.enter E.P f j.toArray .normal) (c0::base) w) c0 base ok u p∧VR o v u∧HR o g.blk.get p∧Ext ρ o h g w p:=by
 unfold Kz at hx;split at hx
 ·rename_i l hl;have y:=hE.ox _ _ hl;split at hx
  ·rename_i r q;cases hx;exact Qr rfl (fun e t=>hO.orc e (y e t)) hE.kd q ha n k d
  ·split at hx
   ·rename_i z m;cases hx;split at m
    ·exact Qr rfl (fun e t=>hO.orc e (y e t)) hE.kd m (Yv ha) n k d
    ·cases m
   ·split at hx
    ·rename_i z m;cases hx;exact Ja hE rfl hO.sms m ha n k d
    ·cases hx
 ·split at hx
  ·rename_i z m;cases hx;exact Ja hE rfl hO.sms m ha n k d
  ·cases hx
omit hE hO in
theorem Zt {h:Aa} {a:AV} {v:Value} (ha:VR ρ a v):VR ρ (UM h a) v:=by
 unfold UM;split
 ·rename_i b n es;split
  ·cases ha with
   |slice _ _ _ _ cap base hb hc hz=>exact .asl b es (.c n) (.bc false) cap base hb (Int.natCast_nonneg _) (by simpa [Ac,Ab,D.toInt] using hc) (by omega) rfl
   |sliceEnd _ _ _ a=>exact .aslEnd b es (.c (0:Nat)) (.bc false) (some a) rfl rfl
  ·exact ha
 ·exact ha
omit hE hO in
theorem Lv {h:Aa} {f:AF} {c:Frame} (hf:FrR ρ f c):FrR ρ (VZ h f) c:=by
 unfold VZ;split
 ·refine ⟨hf.fn,⟨hf.tm.size,fun i x hx=>?_⟩,hf.todo,hf.defers,hf.mode,hf.kind,hf.round⟩
  have hx:(f.tmps.mapA (UM h)).get i=some x:=hx;rw [T.get_mapA] at hx;cases hg:f.tmps.get i with
  |none=>rw [hg] at hx;cases hx
  |some y=>
   rw [hg] at hx;cases hx;exact Zt (hf.tm.get i y hg)
 ·exact hf
omit hO in
theorem Yt (hsr:SR ρ s c ccs w) (hm:s.fr.mode=.run) {all:Array Oper} {o:Oper} {r:List Oper} {k:List AI} (ht:s.fr.todo=.ops all (o::r)::k) (hx:Zz E s all o r=some s') (base:List Frame) :
  ∃σ c' ccs' w',Steps E.P (lone c (ccs++base) w) (lone c' (ccs'++base) w')∧SR σ s' c' ccs' w'∧Ext ρ σ s.h s'.h w w':=by
 unfold Zz at hx;split at hx
 ·rename_i t x lo o2 r2 d hop hdst;split at hx
  ·rename_i cc hop2;split at hx
   ·rename_i t1 d' hcal hats hargs;split at hx
    ·rename_i b es n nl kd l hex hel;split at hx
     ·rename_i e e1 e2 y hd hd1 hb;split at hx
      ·rename_i z ks hz hk;split at hx
       ·rename_i hc;split at hx
        ·rename_i fr1 hw1 hf1;split at hx
         ·rename_i fr2 hw2 hf2;cases hx;obtain ⟨c1,hc⟩:=Au hc;obtain ⟨c2,hc⟩:=Au hc;obtain ⟨c3,hc⟩:=Au hc;obtain ⟨c4,hc⟩:=Au hc;obtain ⟨c5,hc⟩:=Au hc;obtain ⟨c6,hc⟩:=Au hc;obtain ⟨c7,hc⟩:=Au hc;obtain ⟨c8,c9⟩:=Au hc;have q1:=Ay c1;have q2:=Ay c2;have q3:=Ay c3;subst q1 q2 q3;have htodo:=hsr.fr.todo;rw [ht] at htodo;obtain ⟨i,idx,k',ee,ho,hm',hkk⟩:=htodo.ops_inv;have hmode:=hsr.fr.mode;rw [hm] at hmode
          have hcm:c.mode=.run:=by
           generalize c.mode=x at hmode;cases hmode;rfl
          have ht':=hsr.fr.tm
          have hev:EvR ρ s.fr.tmps c.eval:=by
           intro x;have:=Jq ht' x;cases x<;>exact this
          have hvx:=hev x;rw [hex] at hvx;have hvl:=Cl (hev lo) hel;obtain ⟨v,w',r1,r2',r3,r4⟩:=dP hE hsr.h (ty:=o2.type) hd hd1 hz hk (Ay c4) (Ay c5) c6 hvx hb c7 c8 hvl c9;have hnd:∀cl,o.op≠.defer cl:=by intro cl e;rw [hop] at e;cases e
          have hnd2:∀cl,o2.op≠.defer cl:=by intro cl e;rw [hop2] at e;cases e
          have st1:step E.P (lone c (ccs++base) w)=.next (lone (c.finish v) (ccs++base) w):=UD hcm ee ho (Ce ht' hw1) (.inr hnd) (.inl (by simp [execOp,hop,r1]))
          have fr1ok:=BJ hsr.fr hf1 (VR.top v)
          have ef:c.finish v={c with tmps:=I9 c.tmps o.dst v,todo:=.inRegion all idx::k'}:=by
           simp only [Frame.finish,ee,ho,Option.bind_some,I9];cases o.dst<;>rfl
          have fm:fr1.mode=.run∧fr1.todo=.ops all (o2::r2)::k∧d<s.fr.nt:=by
           unfold B2 at hf1;rw [ht] at hf1;simp only [hdst,EB] at hf1;split at hf1
           ·rename_i t' hp;cases hf1;split at hp
            ·rename_i hlt;exact ⟨hm,rfl,Ig hlt⟩
            ·cases hp
           ·cases hf1
          obtain ⟨fm1,fm2,fm3⟩:=fm;have htodo2:=fr1ok.todo;rw [fm2] at htodo2;obtain ⟨i2,idx2,k2',ee2,ho2,_,_⟩:=htodo2.ops_inv;have hcm2:(c.finish v).mode=.run:=by rw [ef];exact hcm
          have hev2:(c.finish v).eval (.tmp d)=v:=by
           show (c.finish v).tmps.getD d Go.undef=v;rw [ef];show (I9 c.tmps o.dst v).getD d Go.undef=v;rw [hdst];have:d<c.tmps.size:=by rw [ht'.size];exact fm3
           simp [I9,Mf,this]
          have hrun2:(execOp (c.finish v).eval o2).run E.P w=.ok (.value (.tuple #[])) w':=by
           have a1:cc.argTypes = #[t1]:=by rw [←Array.toList_inj];exact hats
           have hmap:(cc.args.map (c.finish v).eval)=(cc.args.toList.map (c.finish v).eval).toArray:=by apply Array.ext';simp
           have ex:∃cs,execOp (c.finish v).eval o2=builtin .clear cc.argTypes o2.type cs (cc.args.toList.map (c.finish v).eval).toArray:=
            ⟨_,by unfold execOp;rw [hop2];simp only [resolve,hcal,pure_bind,invoke,hmap];rfl⟩
           obtain ⟨cs,ex⟩:=ex;rw [ex,a1,hargs];simp only [zx,List.map_nil,hev2];simp [builtin,r2']
          have st2:step E.P (lone (c.finish v) (ccs++base) w)=.next (lone ((c.finish v).finish (.tuple #[])) (ccs++base) w'):=UD hcm2 ee2 ho2 (Ce fr1ok.tm hw2) (.inr hnd2) (.inl hrun2);have fr2ok:=BJ fr1ok hf2 (VR.top (.tuple #[]));exact ⟨ρ,(c.finish v).finish (.tuple #[]),ccs,w',Steps.head st1 (Steps.one st2),⟨fr2ok,hsr.cs,r3⟩,r4⟩
         ·cases hx
        ·cases hx
       ·cases hx
      ·cases hx
     ·cases hx
    ·cases hx
   ·cases hx
  ·cases hx
 ·cases hx
omit hE hO in
theorem RV {fr:AF} {c:Frame} {v:AV} {v':Value} (hf:FrR ρ fr c) (hm:c.mode=.run) (hv:VR ρ v v'):FrR ρ {fr with mode:=.panic [(v,false)]} (c.raise [{v:=v',recovered:=false}]):=by
 have e:c.raise [{v:=v',recovered:=false}]={c with mode:=.panicking [{v:=v',recovered:=false}]}:=by simp [Frame.raise,hm]
 rw [e];exact ⟨hf.fn,hf.tm,hf.todo,hf.defers,.panic _ _ ⟨hv,rfl,rfl,trivial⟩,hf.kind,hf.round⟩
omit hE hO in
theorem LJ {f:Operand} {params:List Tmp} {assign body:Code} {k:List AI} {g:FuncId} {args:List AV} {h3:Aa} {fr':AF} (hx:Ej E s f params assign body k=some (g,args,h3,fr')):fr'.mode=s.fr.mode:=by
 unfold Ej at hx;split at hx
 ·split at hx
  ·split at hx
   ·cases hx;rfl
   ·cases hx
  ·cases hx
 ·cases hx
theorem ZU (hsr:SR ρ s c ccs w) (F:WF s.h) (hx:Zc E s=some s') (j:AW ρ s.h.nx s'.h.nx) (base:List Frame) :
  ∃σ c' ccs' w',Steps E.P (lone c (ccs++base) w) (lone c' (ccs'++base) w')∧SR σ s' c' ccs' w'∧Ext ρ σ s.h s'.h w w':=by
 unfold Zc at hx;split at hx
 ·cases hx
 ·split at hx
  ·rename_i hm;split at hx
   ·rename_i all o r k ht;split at hx
    ·rename_i X M;cases hx;exact Yt hE hsr hm ht M base
    split at hx
    ·rename_i S;split at hx
     ·rename_i W;split at hx
      ·rename_i g args h1 hop;split at hx
       ·rename_i v h2 m;split at hx
        ·rename_i fr u;cases hx;have htodo:=hsr.fr.todo;rw [ht] at htodo;obtain ⟨i,idx,k',e,ho,hm',hk⟩:=htodo.ops_inv;have hmode:=hsr.fr.mode;rw [hm] at hmode
         have hcm:c.mode=.run:=by
          generalize c.mode=x at hmode;cases hmode;rfl
         have ht':=hsr.fr.tm
         have hev:EvR ρ s.fr.tmps c.eval:=by
          intro x;have:=Jq ht' x;cases x<;>exact this
         have p:=Ie hE hsr.h hev o;rw [hop] at p;obtain ⟨rfl,q,ha,A⟩:=p
         have hnd:∀cl,o.op≠.defer cl:=by
          intro cl e;rw [e] at hop;simp only [aop] at hop;rcases DH s.fr.tmps cl s.h with ⟨d,L⟩|⟨y,L⟩<;>(rw [L] at hop;cases hop)
         obtain ⟨σ,v',w',q1,q2,q3,B⟩:=Ez hE hO m ha hsr.h F j c (ccs++base);have H:=MJ (cs:=ccs++base) (P:=E.P) hcm e ho (Ce ht' W) (.inr hnd) A;exact ⟨σ,c.finish v',ccs,w',Steps.head H q1,⟨Lv (BJ (hsr.fr.mono B.le) u q2),hsr.cs.mono B.le,q3⟩,B⟩
        ·cases hx
       ·rename_i v h2 m;cases hx;have htodo:=hsr.fr.todo;rw [ht] at htodo;obtain ⟨i,idx,k',e,ho,hm',hk⟩:=htodo.ops_inv;have hmode:=hsr.fr.mode;rw [hm] at hmode
        have hcm:c.mode=.run:=by
         generalize c.mode=x at hmode;cases hmode;rfl
        have ht':=hsr.fr.tm
        have hev:EvR ρ s.fr.tmps c.eval:=by
         intro x;have:=Jq ht' x;cases x<;>exact this
        have p:=Ie hE hsr.h hev o;rw [hop] at p;obtain ⟨rfl,q,ha,A⟩:=p
        have hnd:∀cl,o.op≠.defer cl:=by
         intro cl e;rw [e] at hop;simp only [aop] at hop;rcases DH s.fr.tmps cl s.h with ⟨d,L⟩|⟨y,L⟩<;>(rw [L] at hop;cases hop)
        obtain ⟨σ,v',w',q1,q2,q3,B⟩:=Ez hE hO m ha hsr.h F j c (ccs++base);have H:=MJ (cs:=ccs++base) (P:=E.P) hcm e ho (Ce ht' W) (.inr hnd) A;exact ⟨σ,c.raise [{v:=v',recovered:=false}],ccs,w',Steps.head H q1,⟨Lv (RV (hsr.fr.mono B.le) hcm q2),hsr.cs.mono B.le,q3⟩,B⟩
       ·cases hx
      ·cases hx
     ·cases hx
    ·cases hx
   ·
    rename_i fo params assign body k ht;split at hx
    ·rename_i g args h3 fr' I;split at hx
     ·rename_i v h2 m;split at hx
      ·rename_i fr C u;cases hx;have htodo:=hsr.fr.todo;rw [ht] at htodo;have hmode:=hsr.fr.mode;rw [hm] at hmode
       have hcm:c.mode=.run:=by
        generalize c.mode=x at hmode;cases hmode;rfl
       generalize J:c.todo=td at htodo;cases htodo with
       |cons K hk=>
        cases K;have N:h3.nx≤h2.nx:=De C;obtain ⟨σ,c',q,w1,q1,q2,q3,B,G⟩:=Ix hE hsr hcm hk J I (fun b O Y=>j b O (by show b<h2.nx;omega)) base
        obtain ⟨Q,v',w',r1,r2,r3,r4⟩:=Ez hE hO m q2 B (G.wf F) (G.free j) c' (ccs++base);exact ⟨Q,c'.finish v',ccs,w',Steps.head q1 r1,⟨Lv (BJ (q3.mono r4.le) u r2),(hsr.cs.mono G.le).mono r4.le,r3⟩,G.trans r4 j⟩
      ·cases hx
     ·rename_i v h2 m;split at hx
      ·rename_i C;cases hx;have htodo:=hsr.fr.todo;rw [ht] at htodo;have hmode:=hsr.fr.mode;rw [hm] at hmode
       have hcm:c.mode=.run:=by
        generalize c.mode=x at hmode;cases hmode;rfl
       generalize J:c.todo=td at htodo;cases htodo with
       |cons K hk=>
        cases K;have N:h3.nx≤h2.nx:=De C;obtain ⟨σ,c',q,w1,q1,q2,q3,B,G⟩:=Ix hE hsr hcm hk J I (fun b O Y=>j b O (by show b<h2.nx;omega)) base
        obtain ⟨Q,v',w',r1,r2,r3,r4⟩:=Ez hE hO m q2 B (G.wf F) (G.free j) c' (ccs++base)
        have R:c'.mode=.run:=by
         have h1:=q3.mode;have h2:fr'.mode=.run:=by rw [LJ I,hm]
         rw [h2] at h1;generalize c'.mode=x at h1;cases h1;rfl
        exact ⟨Q,c'.raise [{v:=v',recovered:=false}],ccs,w',Steps.head q1 r1,⟨Lv (RV (q3.mono r4.le) R r2),(hsr.cs.mono G.le).mono r4.le,r3⟩,G.trans r4 j⟩
      ·cases hx
     ·cases hx
    ·cases hx
   ·cases hx
  ·cases hx
omit hE hO in
theorem Qm {ρ:Ren} {nt:Nat} {t:T AV} {a:Array Value} (h:TR ρ nt t a):∀{l:List Tmp} {i:Tmp} {v:AV},ZB t l=some (i,v)→TR ρ nt (t.set i v) a
 |[],i,v,hx=>by cases hx
 |c::r,i,v,hx=>by
  unfold ZB at hx;split at hx
  ·rename_i b nl hg;split at hx
   ·exact Qm h hx
   ·cases hx;refine ⟨h.size,fun j x hj=>?_⟩
    rw [T.get_set] at hj;by_cases e:c=j
    ·subst e;rw [if_pos rfl] at hj;cases hj;exact Pj (h.get c _ hg)
    ·rw [if_neg e] at hj;exact h.get j x hj
  ·exact Qm h hx
theorem QD (hsr:SR ρ s c ccs w) (q:WF s.h) (hx:VY E s=some s') (m:AW ρ s.h.nx s'.h.nx) (base:List Frame) :
  ∃σ c' ccs' w',Steps E.P (lone c (ccs++base) w) (lone c' (ccs'++base) w')∧SR σ s' c' ccs' w'∧Ext ρ σ s.h s'.h w w':=by
 unfold VY at hx;split at hx
 ·rename_i u p;cases hx;unfold xI at p;split at p
  ·split at p
   ·rename_i i v hl;cases p;exact ⟨ρ,c,ccs,w,Steps.refl _ _,⟨⟨hsr.fr.fn,Qm hsr.fr.tm hl,hsr.fr.todo,hsr.fr.defers,hsr.fr.mode,hsr.fr.kind,hsr.fr.round⟩,hsr.cs,hsr.h⟩,Ext.refl _ _ _⟩
   ·cases p
  ·cases p
 ·exact ZU hE hO hsr q hx m base
end
end Go.AE
namespace Go.AE
variable [Gl:AJ]
mutual
def mvA (d:Nat):AV→AV
 |.bool b=>.bool b
 |.int k n=>.int k n
 |.str l b=>.str l b
 |.ptr0=>.ptr0
 |.ptr b o=>.ptr (b+d) o
 |.slice0=>.slice0
 |.slice b o n c=>.slice (b+d) o n c
 |.map0=>.map0
 |.map b=>.map (b+d)
 |.nilFunc=>.nilFunc
 |.nilIface=>.nilIface
 |.iface t v=>.iface t (mvA d v)
 |.agg l=>.agg (mvL d l)
 |.tuple l=>.tuple (mvL d l)
 |_=>.top
def mvL (d:Nat):List AV→List AV
 |[]=>[]
 |a::r=>mvA d a::mvL d r
end
def fH (d:Nat):List AG→List AG
 |[]=>[]
 |e::r=>{key:=mvA d e.key,val:=mvA d e.val,born:=e.born}::fH d r
def mvK (d:Nat):Ak→Option Ak
 |.cells n c=>some (.cells n (c.mapA (mvA d)))
 |.map a k=>some (.map (fH d a) k)
 |_=>none
def T.keys {t:Type} (m s:Nat):T t→List Nat
 |.nil=>[]
 |.node v l r=>(match v with|some _=>[s]|none=>[])++(l.keys (2*m) (s+m)++r.keys (2*m) (s+2*m))
def mvT (d:Nat) (t:T Ak):List Nat→T Ak
 |[]=>.nil
 |k::r=>match t.get k with
  |some x=>match mvK d x with
   |some y=>(mvT d t r).set (k+d) y
   |none=>mvT d t r
  |none=>mvT d t r
def eA:AV→Bool
 |.bool _=>true
 |.int _ _=>true
 |.str _ _=>true
 |_=>false
def Orc.canMove (e:Orc):Bool:=e.args.all eA&&(match e.part with|.nil=>true|_=>false)
def Orc.move (e:Orc) (d:Nat):Orc:={f:=e.f,args:=e.args,part:=.nil,nx:=e.nx+d,ok:=e.ok,v:=mvA d e.v,out:=mvT d e.out (e.out.keys 1 0),nx':=e.nx'+d,wr:=[]}
theorem Qn (d:Nat):∀l:List AV,(mvL d l).length=l.length
 |[]=>rfl
 |a::r=>by simp [mvL,Qn d r]
theorem Vi (d:Nat):∀(l:List AV) (i:Nat),(mvL d l)[i]?=l[i]?.map (mvA d)
 |[],i=>by simp [mvL]
 |a::r,0=>by simp [mvL]
 |a::r,i+1=>by simp [mvL,Vi d r i]
section
variable [U:Unk]
theorem VR.move {ρ J:Ren} {d:Nat} (h:∀b base,ρ b=some base→J (b+d)=some base) {a:AV} {v:Value} (k:VR ρ a v):VR J (mvA d a) v:=by
 have ls:∀(l:List AV) (l':List Value),(∀(i:Nat) (a:AV) (v:Value),l[i]?=some a→l'[i]?=some v→VR J (mvA d a) v)→∀(i:Nat) (a:AV) (v:Value),(mvL d l)[i]?=some a→l'[i]?=some v→VR J a v:=by
  intro l l' ih i a v r hv;rw [Vi] at r;cases hl:l[i]? with
  |none=>rw [hl] at r;cases r
  |some x=>rw [hl] at r;cases r;exact ih i x v hl hv
 induction k with
 |top v=>exact .top v
 |bool b=>exact .bool b
 |int k n=>exact .int k n
 |str s=>exact .str s
 |ptr0=>exact .ptr0
 |ptr b off base I=>exact .ptr _ off base (h _ _ I)
 |slice0=>exact .slice0
 |slice b off n es cap base I hc hz=>exact .slice _ off n es cap base (h _ _ I) hc hz
 |sliceEnd b off es a=>exact .sliceEnd _ off es a
 |map0=>exact .map0
 |map b base I=>exact .map _ base (h _ _ I)
 |func=>exact .top _
 |nilFunc=>exact .nilFunc
 |iface t a v _ ih=>exact .iface t _ v ih
 |nilIface=>exact .nilIface
 |agg l l' h1 h2 ih=>exact .agg _ l' (by rw [Qn,h1]) (ls l l' ih)
 |tuple l l' h1 h2 ih=>exact .tuple _ l' (by rw [Qn,h1]) (ls l l' ih)
 |sb=>exact .top _
 |si=>exact .top _
 |ss=>exact .top _
 |dat=>exact .top _
 |dptr=>exact .top _
 |asl=>exact .top _
 |aslEnd=>exact .top _
 |eslc=>exact .top _
 |aptr=>exact .top _
 |nmap=>exact .top _
 |nmap0=>exact .top _
 |stamp=>exact .top _
 |glob=>exact .top _
 |fsl=>exact .top _
theorem ER.move {ρ r:Ren} {d:Nat} (h:∀b base,ρ b=some base→r (b+d)=some base):∀{l:List AG} {l':List MapEntry},ER ρ l l'→ER r (fH d l) l'
 |[],[],_=>trivial
 |_::_,_::_,⟨t,I,J,h4⟩=>⟨t.move h,I.move h,J,ER.move h h4⟩
 |[],_::_,h=>h.elim
 |_::_,[],h=>h.elim
theorem BR.move {ρ σ:Ren} {d:Nat} (h:∀b base,ρ b=some base→σ (b+d)=some base) {x y:Ak} {base:Cr} {o:Option Obj} (k:BR ρ x base o) (l:mvK d x=some y):BR σ y base o:=by
 cases x with
 |cells n c=>
  cases l;obtain ⟨t,e,fz,I,J,h3,h4,h5⟩:=k;refine ⟨t,e,fz,I,J,h3,h4,fun i a hi r=>?_⟩
  rw [T.get_mapA] at r;cases hc:c.get i with
  |none=>rw [hc] at r;cases r
  |some a0=>
   rw [hc] at r;cases r;obtain ⟨v,hv,hr⟩:=h5 i a0 hi hc;exact ⟨v,hv,hr.move h⟩
 |map es al=>cases l;obtain ⟨an,I,J⟩:=k;exact ⟨an,I,J.move h⟩
 |arr=>cases l
 |hole=>cases l
 |dmap=>cases l
 |dmapS=>cases l
 |loop=>cases l
 |deferred=>cases l
 |mapIter=>cases l
 |strIter=>cases l
omit U in
theorem dY {d:Nat} {t:T Ak}:∀{l:List Nat} {b:Nat} {y:Ak},(mvT d t l).get b=some y→∃k x,b=k+d∧t.get k=some x∧mvK d x=some y:=by
 intro l
 induction l with
 |nil=>intro b y h;rw [mvT,T.get_nil] at h;cases h
 |cons k r ih=>
  intro b y h;unfold mvT at h;split at h
  ·rename_i x hx;split at h
   ·rename_i z hz;rw [T.get_set] at h;by_cases hb:k+d=b
    ·rw [if_pos hb] at h;cases h;exact ⟨k,x,hb.symm,hx,hz⟩
    ·rw [if_neg hb] at h;exact ih h
   ·exact ih h
  ·exact ih h
theorem ZM {c e:Ren} {a:AV} {v:Value} (h:eA a=true) (k:VR c a v):VR e a v:=by
 cases k<;>first | (cases h;done)|constructor
end
theorem Orc.Valid.move {P:Program} {F:Nat→D→D} {e:Orc} (hv:e.Valid P F) (hc:e.canMove=true) (d:Nat):(e.move d).Valid P F:=by
 intro U hK hF ρ w al ha hr cd av c0 base;unfold Orc.canMove at hc;simp only [IqQ] at hc;obtain ⟨b5,be⟩:=hc
 have hp:e.part=.nil:=by
  split at be
  ·assumption
  ·cases be
 have bm:∀b,e.part.get b=none:=fun b=>by rw [hp];exact T.get_nil b
 have b6:VL ⟨fun _=>none,ρ.imm⟩ e.args al:=⟨ha.1,fun i a v I J=>ZM (List.all_eq_true.1 b5 a (pc I)) (ha.2 i a v I J)⟩
 have b7:HR ⟨fun _=>none,ρ.imm⟩ e.part.get w:=⟨fun _ _ h=>(by cases h),fun _ _ _ h=>(by cases h),fun _ _ _ _ _ h=>(by cases h),hr.imm,fun _ _ _ _ _ h=>(by cases h),hr.glob⟩
 obtain ⟨r,v',w',g,q1,q2,q3,q4,q5,q6,q7⟩:=hv hK hF ⟨fun _=>none,ρ.imm⟩ w al b6 b7 (fun b _=>bm b) (fun _ _ _=>rfl) c0 base
 have bn:∀b base,r b=some base→e.nx≤b∧b<e.nx'∧w.heap.size≤base.cb:=by
  intro b base l;rcases q4.new b base l with h|⟨I,J,h3⟩
  ·cases h
  ·refine ⟨I,q6▸J,?_⟩;rcases h3 with h|⟨_,_,h,_⟩
   ·exact h
   ·cases h
 have bd:∀k x,g.blk.get k=some x→e.nx≤k∧k<e.nx':=by
  intro k x hk;rcases q4.live k (by rw [hk];exact F4 _) with h|⟨I,J⟩
  ·exact absurd (bm k) h
  ·exact ⟨I,q6▸J⟩
 have cf:e.nx≤e.nx':=by have:=q4.nx;rw [q6] at this;exact this
 have ck:=hr.lt
 let σ:Ren:=⟨fun b=>if e.nx+d≤b∧b<e.nx'+d then r (b-d) else ρ b,r.imm⟩
 have bs:∀b base,r b=some base→σ (b+d)=some base:=by
  intro b base l;obtain ⟨I,J,_⟩:=bn b base l;show (if e.nx+d≤b+d∧b+d<e.nx'+d then r (b+d-d) else ρ (b+d))=some base
  rw [if_pos ⟨by omega,by omega⟩,Nat.add_sub_cancel]
  exact l
 have an:∀b base,σ b=some base→(e.nx+d≤b∧b<e.nx'+d∧r (b-d)=some base)∨ρ b=some base:=by
  intro b base l;have l:(if e.nx+d≤b∧b<e.nx'+d then r (b-d) else ρ b)=some base:=l
  by_cases hh:e.nx+d≤b∧b<e.nx'+d
  ·rw [if_pos hh] at l;exact .inl ⟨hh.1,hh.2,l⟩
  ·rw [if_neg hh] at l;exact .inr l
 have t:∀b y,(mvT d e.out (e.out.keys 1 0)).get b=some y→∃k x,b=k+d∧g.blk.get k=some x∧mvK d x=some y∧e.nx≤k∧k<e.nx':=by
  intro b y l;obtain ⟨k,x,I,J,h3⟩:=dY l;have h4:=q5 k x J;obtain ⟨h5,h6⟩:=bd k x h4;exact ⟨k,x,I,h4,h3,h5,h6⟩
 have ar:∀k base,e.nx≤k→k<e.nx'→σ (k+d)=some base→r k=some base:=by
  intro k base I J h;have h:(if e.nx+d≤k+d∧k+d<e.nx'+d then r (k+d-d) else ρ (k+d))=some base:=h
  rw [if_pos ⟨by omega,by omega⟩,Nat.add_sub_cancel] at h
  exact h
 refine ⟨σ,v',w',{blk:=mvT d e.out (e.out.keys 1 0),nx:=e.nx'+d,log:=[]},q1,q2.move bs,⟨?_,?_,?_,q3.imm,?_,q3.glob⟩,⟨⟨?_,q4.le.imm⟩,?_,?_,q4.calm,?_,⟨[],rfl,?_⟩,?_,?_⟩,fun b x h=>h,rfl,fun b l=>(by cases l)⟩
 ·intro b base l;rcases an b base l with ⟨_,_,h⟩|h
  ·exact q3.lt _ _ h
  ·have:=hr.lt b base h;have:=q4.calm.size;omega
 ·intro b base y l hy;obtain ⟨k,x,rfl,I,J,h3,h4⟩:=t b y hy;exact (q3.blk k base x (ar k base h3 h4 l) I).move bs J
 ·intro b b' base base' b8 l b9 I J;cases hy:(mvT d e.out (e.out.keys 1 0)).get b with
  |none=>exact absurd hy I
  |some y=>
   cases bv:(mvT d e.out (e.out.keys 1 0)).get b' with
   |none=>exact absurd bv J
   |some y'=>
    obtain ⟨k,x,rfl,a1,a2,a3,a4⟩:=t b y hy;obtain ⟨k',x',rfl,b1,b2,b3,b4⟩:=t b' y' bv;exact q3.apart k k' base base' (fun e=>b8 (by rw [e])) (ar k base a3 a4 l) (ar k' base' b3 b4 b9) (by rw [a1];exact F4 _) (by rw [b1];exact F4 _)
 ·intro k arr b base hk l hg;cases hy:(mvT d e.out (e.out.keys 1 0)).get b with
  |none=>exact absurd hy hg
  |some y=>
   obtain ⟨j,x,rfl,a1,a2,a3,a4⟩:=t b y hy;exact q3.off k arr j base hk (ar j base a3 a4 l) (by rw [a1];exact F4 _)
 ·intro b base l;show (if e.nx+d≤b∧b<e.nx'+d then r (b-d) else ρ b)=some base
  rw [if_neg]
  ·exact l
  ·rintro ⟨I,J⟩
   have:=av b I J;rw [this] at l;cases l
 ·show e.nx+d≤e.nx'+d;omega
 ·intro b base l;rcases an b base l with ⟨I,J,h⟩|h
  ·exact .inr ⟨I,J,.inl (bn _ _ h).2.2⟩
  ·exact .inl h
 ·intro k hk _;exact q4.kept k hk (fun b base l=>by cases l)
 ·intro b _ l;show (mvT d e.out (e.out.keys 1 0)).get b=(T.nil:T Ak).get b;rw [T.get_nil];cases hy:(mvT d e.out (e.out.keys 1 0)).get b with
  |none=>rfl
  |some y=>
   obtain ⟨k,x,rfl,_,_,h3,h4⟩:=t b y hy;have l:k+d<e.nx+d∨e.nx'+d≤k+d:=l;omega
 ·intro b l;refine .inr ?_;cases hy:(mvT d e.out (e.out.keys 1 0)).get b with
  |none=>exact absurd hy l
  |some y=>
   obtain ⟨k,x,rfl,_,_,h3,h4⟩:=t b y hy;exact ⟨by show e.nx+d≤k+d;omega,by show k+d<e.nx'+d;omega⟩
 ·intro k arr hk;rcases q4.imm k arr hk with h|h|⟨b0,cc,h,_⟩
  ·exact .inl h
  ·exact .inr (.inl h)
  ·cases h
end Go.AE
namespace Go.AE
variable [Gl:AJ]
section
variable [U:Vals]
omit U in
theorem GY:∀{a b:T AV},Ku a b=true→∀i x,a.get i=some x→b.get i=some x
 |.nil,_,_,i,x,hx=>by rw [T.get_nil] at hx;cases hx
 |.node v l r,.node v' l' r',h,i,x,hx=>by
  simp only [Ku,IqQ] at h;obtain ⟨h1,h2,h3⟩:=h;by_cases e:i=0
  ·rw [T.get_zero _ _ _ e] at hx ⊢;subst hx;cases v' with
   |none=>cases h1
   |some y=>rw [Ee _ _ h1]
  ·by_cases o:i%2=1
   ·rw [T.get_odd _ _ _ o] at hx ⊢;exact GY h2 _ x hx
   ·rw [T.get_even _ _ _ (by omega) e] at hx ⊢;exact GY h3 _ x hx
 |.node v l r,.nil,h,i,x,hx=>by
  simp only [Ku,IqQ] at h;obtain ⟨h1,h2,h3⟩:=h;by_cases e:i=0
  ·rw [T.get_zero _ _ _ e] at hx;subst hx;cases h1
  ·by_cases o:i%2=1
   ·rw [T.get_odd _ _ _ o] at hx;have:=GY h2 _ x hx;rw [T.get_nil] at this;cases this
   ·rw [T.get_even _ _ _ (by omega) e] at hx;have:=GY h3 _ x hx;rw [T.get_nil] at this;cases this
omit U in
theorem di {a b:AI} (h:gO a b=true):a=b:=by
 cases a<;>cases b<;>simp only [gO,Ts,IqQ] at h
 ·rw [Em h]
 ·rw [Bg h]
 ·rw [Em h]
 ·rw [Em h]
 ·rw [EG (fun _ _=>JZ) h.1,Hs (fun _ _=>JZ) h.2]
end
section
variable [U:Unk] {E:Env} (hE:OK E) (hO:Af E U.V.fn)
include hE hO in
theorem Sa {callF:Ask→Aa→Option (Bool×AV×Aa)} (hF:FP E callF) {F:Nat} {ρ:Ren} {s s':AS} {c:Frame} {ccs:List Frame} {w:World} (hsr:SR ρ s c ccs w) (hwf:WF s.h) (hx:ZS E callF F s=some s') (hfree:AW ρ s.h.nx s'.h.nx) (bs:List Frame) :
  ∃σ c' ccs' w',Steps E.P (lone c (ccs++bs) w) (lone c' (ccs'++bs) w')∧SR σ s' c' ccs' w'∧Ext ρ σ s.h s'.h w w':=by
 cases hx
end
end Go.AE
namespace Go.AE
variable [Gl:AJ]
variable [U:Unk]
section
variable {E:Env} (hE:OK E) (hO:Af E U.V.fn)
include hE hO
theorem XU:∀(f:Nat) (F:FuncId) (G:Bool) (s:AS) (o:Ren) (c:Frame) (t:List Frame) (w:World) (ok:Bool) (v:AV) (h:Aa),SR o s c t w→WF s.h→Gf E f F G s=some (ok,v,h)→AW o s.h.nx h.nx→
  ∀base:List Frame,∃i q C w1 j,Steps E.P (lone c (t++base) w) (lone q base w1)∧q.fn=F∧(G=false→q.roundOf=none)∧Jc E.P q w1 ok C j∧VR i v C∧HR i h.blk.get j∧Ext o i s.h h w j:=by
 intro f
 induction f with
 |zero=>intro F G s o c t w ok v h p m d;cases d
 |succ f ih=>
  intro F G s o c t w ok v h p m d a base
  have O:∀(y:AS) (i:Ren) (L:Frame) (e:List Frame) (w1:World),Steps E.P (lone c (t++base) w) (lone L (e++base) w1)→SR i y L e w1→Ext o i s.h y.h w w1→Gf E f F G y=some (ok,v,h)→
    ∃i q C w1 j,Steps E.P (lone c (t++base) w) (lone q base w1)∧q.fn=F∧(G=false→q.roundOf=none)∧Jc E.P q w1 ok C j∧VR i v C∧HR i h.blk.get j∧Ext o i s.h h w j:=by
   intro y i L e w1 K T X h4;obtain ⟨τ,q,C,w2,j,u,z,A,Q,Y,Z,q7⟩:=ih F G y i L e w1 ok v h T (X.wf m) h4 (X.free a) base;exact ⟨τ,q,C,w2,j,Steps.trans K u,z,A,Q,Y,Z,X.trans q7 a⟩
  have hC:∀(fr:AF) (g J:Aa) (ok:Bool) (v:AV) (o:Ren) (q:Frame) (w:World),FrR o fr q→HR o g.blk.get w→WF g→Gf E f fr.fn true {fr,cs:=[],h:=g}=some (ok,v,J)→AW o g.nx J.nx→
    ∀(c0:Frame) (base:List Frame),∃i C j,BK E.P (lone q (c0::base) w) c0 base ok C j∧VR i v C∧HR i J.blk.get j∧Ext o i g J w j:=by
   intro fr g J ok v o q w H N m d a c0 base;obtain ⟨i,D,C,w1,j,u,z,A,Q,Y,Z,q7⟩:=ih fr.fn true {fr,cs:=[],h:=g} o q [] w ok v J ⟨H,.nil,N⟩ m d a (c0::base);refine ⟨i,C,j,?_,Y,Z,q7⟩;have:=Steps.trans u (Steps.one (Q.back c0 base));cases ok<;>exact this
  have hF:FP E (M4 E (Gf E f)):=by
   refine ⟨?_,?_⟩
   ·intro f' args aa g J ok v o w ha N m d a;simp only [M4] at d;split at d
    ·rename_i r M;cases d;exact Ez hE hO M ha N m a
    ·split at d
     ·rename_i fr H;exact hC fr g J ok v o _ w (B7 hE H ha) N m d a
     ·cases d
   ·intro l args g J ok v o w N m d a;simp only [M4] at d;split at d
    ·rename_i fr H;exact ⟨fr,H,fun q ab=>hC fr g J ok v o q w ab N m d a⟩
    ·cases d
  simp only [Gf] at d;split at d
  ·rename_i y R;split at d
   ·rename_i W;have n:=B6 f F G y ok v h d;obtain ⟨i,D,e,j,u,z,A⟩:=QD hE hO p m R (fun b K T=>a b K (by omega)) base
    exact O y i D e j u z A d
   ·cases d
  split at d
  ·rename_i y I;split at d
   ·rename_i W;have n:=B6 f F G y ok v h d;obtain ⟨i,D,e,j,u,z,A⟩:=I2 (base:=base) hE p I (fun b K T=>a b K (by omega))
    exact O y i D e j (Steps.one u) z A d
   ·cases d
  ·rename_i ae C h' I;split at d
   ·rename_i W;simp only [C2,hS] at d;obtain ⟨rfl,rfl,rfl⟩:=d;obtain ⟨rfl,x,j,u,z,A,Q⟩:=Ip hE p I;obtain ⟨b1,b2⟩:=Au W;have ac:=Ay (Au b1).2;refine ⟨o,c,x,w,j,Steps.refl _ _,p.fr.fn.trans ac,fun ad=>?_,Q,u,z,A⟩
    subst ad;have B:=p.fr.round;simp only [Bool.false_or,Option.isNone_iff_eq_none] at b2;rw [b2] at B;exact B.none_inv
   ·cases d
  ·rename_i s2 ops k I;obtain ⟨rfl,hm,id,ht⟩:=Ey I;split at d
   ·rename_i tmps K hd;have n:=B6 f F G _ ok v h d;obtain ⟨i,L,j,u,z,A⟩:=Hr hE hF p m hm ht hd (fun b a1 a2=>a b a1 (Nat.lt_of_lt_of_le a2 n)) base
    exact O _ i L t j u z A d
   ·rename_i v1 tmps K hd;have n:=B6 f F G _ ok v h d;obtain ⟨i,L,j,u,z,A⟩:=Hr hE hF p m hm ht hd (fun b a1 a2=>a b a1 (Nat.lt_of_lt_of_le a2 n)) base
    exact O _ i L t j u z A d
   ·cases d
  ·split at d
   ·rename_i y hl;split at d
    ·rename_i W;have n:=B6 f F G y ok v h d;obtain ⟨i,D,e,j,u,z,A⟩:=Sa hE hO hF p m hl (fun b K T=>a b K (by omega)) base
     exact O y i D e j u z A d
    ·cases d
   split at d
   ·rename_i al S;unfold eJ at S;cases S
   ·cases d
end
theorem Orc.valid {E:Env} (hE:∀[U:Unk],U.K=(Env.of E.P).kinds→OK E) {G:Nat→D→D} (hO:Af E G) {N:Nat} {e:Orc} (h:∀[F:Facts],T3 E N e=true):e.Valid E.P G:=by
 intro U hK hG ρ w I ha hr J r c0 base;have hE:=hE hK;subst hG;have t:=h (F:=U.toFacts);unfold T3 at t;split at t
 ·rename_i ok v g l;simp only [IqQ,beq_iff_eq] at t;obtain ⟨⟨⟨⟨h1,h2⟩,h3⟩,h4⟩,h5⟩:=t;have e4:=Mj h4;unfold eV at l;split at l
  ·rename_i fr al;obtain ⟨σ,cf,v',w1,w',q1,q2,q3,q4,q5,q6,q7⟩:=XU hE hO N e.f false _ ρ _ [] w ok v g ⟨B7 hE al ha,.nil,hr⟩ J l (by show AW ρ e.nx g.nx;rw [e4];exact r) (c0::base)
   refine ⟨σ,v',w',g,?_,Ee _ _ h2▸q5,q6,q7,Di h3,e4,LG h5⟩;rw [←h1];have:=Steps.trans q1 (Steps.one (q4.back c0 base));cases ok<;>exact this
  ·cases l
 ·cases t
end Go.AE
namespace Go.AE
variable [Gl:AJ]
structure PR where
 o:Oper
 looks:List Tmp
 mask:Nat
 free:List Nat
def eM (a:List Nat):List Edge→Option Nat
 |[]=>some 0
 |e::r=>match eM a r with
  |none=>none
  |some m=>match Region.binds .any e with
   |false=>some m
   |true=>match a[e.on]? with
    |some x=>some (m ||| x ||| 2^e.on)
    |none=>none
def Mn (m n:Nat):List Nat:=(List.range n).filter fun p=>!Nat.beq (m/2^(n-1-p)%2) 1
def eX (all:Array Oper) (x y:Oper):Bool:=!WI (Bj all y) x.dst && !WI (Bj all x) y.dst && !YS x.dst y.dst
def eR (all:Array Oper) (done:List Oper) (o:Oper) (l:List Nat):Bool:=l.all fun p=>match done[p]? with
 |some x=>eX all x o
 |none=>false
def MI (all:Array Oper):List Oper→List Nat→List Oper→Option (List PR)
 |[],_,_=>some []
 |o::rest,a,done=>match eM a o.after.toList with
  |none=>none
  |some m=>match eR all done o (Mn m done.length) with
   |false=>none
   |true=>match MI all rest (a++[m]) (o::done) with
    |none=>none
    |some l=>some (⟨o,Bj all o,m,Mn m done.length⟩::l)
def Wc (x y:Rc):Bool:=Ik x.wr y.fp&&Ik y.wr x.fp&&JV x.wr y.wr&&X3 x.lo x.hi y.wr
def kc (x y:Rc):Bool:=List.casesOn (motive:=fun _=>Bool) x.wr (List.casesOn (motive:=fun _=>Bool) y.wr true (fun _ _=>Wc x y)) (fun _ _=>Wc x y)
def rh (p:Nat):List Rc→Option Rc:=Nat.rec (motive:=fun _=>List Rc→Option Rc) (fun l=>List.casesOn (motive:=fun _=>Option Rc) l none (fun x _=>some x)) (fun _ ih l=>List.casesOn (motive:=fun _=>Option Rc) l none (fun _ r=>ih r)) p
def FX (y:Rc) (a:List Rc):List Nat→Bool
 |[]=>true
 |p::r=>match rh p a with
  |some x=>match kc x y with
   |true=>FX y a r
   |false=>false
  |none=>false
def vn (n:Nat) (k:Nat→Aa):Aa:=Nat.casesOn (motive:=fun _=>Aa) n (k 0) (fun m=>k (Nat.succ m))
def Pl (h g:Aa):Aa:=vn g.nx fun n=>{blk:=Is (G3 h.blk g.blk (BH h.nx g.log)) g.blk h.nx (n-h.nx),nx:=n,log:=BH h.nx g.log++h.log}
def PV (h g:Aa):Aa:=List.casesOn (motive:=fun _=>Aa) g.log (Bool.casesOn (motive:=fun _=>Aa) (Nat.beq g.nx h.nx) (Pl h g) h) (fun _ _=>Pl h g)
theorem WY (h g:Aa):Pl h g=AX h g:=by
 unfold Pl AX vn;cases g.nx<;>rfl
theorem Wk (h g:Aa):PV h g=AX h g:=by
 unfold PV;rw [WY];cases b:g.log with
 |cons a r=>rfl
 |nil=>
  show (Bool.casesOn (motive:=fun _=>Aa) (Nat.beq g.nx h.nx) (AX h g) h:Aa)=AX h g
  cases c:Nat.beq g.nx h.nx with
  |false=>rfl
  |true=>
   have d:g.nx=h.nx:=Mj c;show h=AX h g;unfold AX;rw [b,d,Nat.sub_self];cases h;rfl
section
variable [U:Facts]
abbrev DrR:=Option (Option AV×T AV×Aa)
def Rf (E:Env) (b:Ask→Aa→Option (Bool×AV×Aa)) (all:Array Oper) (nt:Nat) (F:Nat):List PR→List Rc→T AV→Aa→DrR:=
 Nat.rec (motive:=fun _=>List PR→List Rc→T AV→Aa→DrR) (fun _ _ _ _=>none) (fun _ ih l a tmps h=>
  List.casesOn (motive:=fun _=>DrR) l (some (none,tmps,h)) (fun p rest=>
   Option.casesOn (motive:=fun _=>DrR) (Dp E b all p.o (A0 tmps p.looks) h) none (fun d=>
    Bool.casesOn (motive:=fun _=>DrR) (Nat.ble h.nx d.g.nx) none (Bool.casesOn (motive:=fun _=>DrR) d.ok none
     (Bool.casesOn (motive:=fun _=>DrR) (FX {wr:=BH h.nx d.g.log,fp:=d.fp,lo:=h.nx,hi:=d.g.nx,dst:=p.o.dst,looks:=p.looks,mask:=p.mask} a p.free) none
      (Option.casesOn (motive:=fun _=>DrR) (EB nt tmps p.o.dst d.v) none (fun c=>ih rest ({wr:=BH h.nx d.g.log,fp:=d.fp,lo:=h.nx,hi:=d.g.nx,dst:=p.o.dst,looks:=p.looks,mask:=p.mask}::a) c (PV h d.g)))))))) F
def XV (E:Env) (a:Ask→Aa→Option (Bool×AV×Aa)) (all:Array Oper) (nt:Nat) (tmps:T AV) (h:Aa):DrR:=
 Option.casesOn (motive:=fun _=>DrR) (Option.casesOn (motive:=fun _=>DrR) (MI all all.toList [] []) none (fun b=>Rf E a all nt 100000 b [] tmps h)) (BY E a all nt all.toList [] tmps h) some
end
theorem sK (a:List Rc):∀l:List Edge,eM (a.map Rc.mask) l=BM a l:=by
 intro l
 induction l with
 |nil=>rfl
 |cons e r ih=>
  unfold eM BM;rw [ih];cases BM a r with
  |none=>rfl
  |some m=>
   simp only;cases Region.binds .any e with
   |false=>rfl
   |true=>
    simp only [sd];cases a[e.on]?<;>rfl
theorem bF:∀(p:Nat) (l:List Rc),rh p l=l[p]?:=by
 intro p
 induction p with
 |zero=>intro l;cases l<;>rfl
 |succ p ih=>intro l;cases l with
  |nil=>rfl
  |cons x r=>exact ih r
theorem bJ {x y:Rc} (h:kc x y=true):Wc x y=true:=by
 unfold kc at h;cases b:x.wr with
 |cons a r=>rw [b] at h;exact h
 |nil=>
  cases c:y.wr with
  |cons a r=>rw [b,c] at h;exact h
  |nil=>
   unfold Wc;rw [b,c];cases x.fp<;>cases y.fp<;>rfl
theorem Tu {y:Rc} {a:List Rc}:∀{l:List Nat},FX y a l=true→∀p∈l,∃x,a[p]?=some x∧Wc x y=true:=by
 intro l
 induction l with
 |nil=>intro _ p b;cases b
 |cons q r ih=>
  intro h p b;unfold FX at h;split at h
  ·rename_i x c;split at h
   ·rename_i d;rcases hP.1 b with rfl|b
    ·exact ⟨x,by rw [←bF];exact c,bJ d⟩
    ·exact ih h p b
   ·cases h
  ·cases h
theorem RD {y:Rc}:∀(l:List Rc) (i:Nat),(∀j x,l[j]?=some x→(Nat.beq (y.mask/2^(i+j)%2) 1||x.apart y)=true)→Dj y l i=true:=by
 intro l
 induction l with
 |nil=>intro i _;rfl
 |cons x r ih=>
  intro i h;unfold Dj;have a:=h 0 x rfl;rw [n0] at a;rw [a];exact ih (i+1) (fun j z b=>by have:=h (j+1) z b;rwa [show i+(j+1)=i+1+j from by omega] at this)
inductive RL2 (all:Array Oper):List Rc→List Oper→Prop
 |nil:RL2 all [] []
 |cons {x:Rc} {o:Oper} {l:List Rc} {l':List Oper} (hd:x.dst=o.dst) (hl:x.looks=Bj all o) (k:RL2 all l l'):RL2 all (x::l) (o::l')
theorem RL2.len {all:Array Oper} {l:List Rc} {l':List Oper} (h:RL2 all l l'):l.length=l'.length:=by
 induction h with
 |nil=>rfl
 |cons _ _ _ ih=>simp [ih]
theorem RL2.get {all:Array Oper} {l:List Rc} {l':List Oper} (h:RL2 all l l'):∀{p:Nat} {x:Rc},l[p]?=some x→∃o,l'[p]?=some o∧x.dst=o.dst∧x.looks=Bj all o:=by
 induction h with
 |nil=>intro p x r;simp at r
 |cons t I k ih=>
  intro p x r;cases p with
  |zero=>simp at r;subst r;exact ⟨_,rfl,t,I⟩
  |succ p=>exact ih (by simpa using r)
theorem ZY {all:Array Oper} {a:List Rc} {done:List Oper} {o:Oper} {y:Rc} {m:Nat} (k:RL2 all a done) (e:y.mask=m) (f:y.dst=o.dst) (g:y.looks=Bj all o)
  (n:eR all done o (Mn m done.length)=true) (p:FX y a (Mn m done.length)=true):Dj y a.reverse 0=true:=by
 refine RD _ _ fun j x h=>?_
 rw [pi,e]
 have hj:j<a.length:=by
  have:=(LT.1 h).1;simpa using this
 have d:a[a.length-1-j]?=some x:=by
  rw [List.getElem?_reverse (by simpa using hj)] at h
  exact h
 cases q:Nat.beq (m/2^j%2) 1 with
 |true=>rfl
 |false=>
  have c:a.length-1-j∈Mn m done.length:=by
   unfold Mn;rw [List.mem_filter,List.mem_range,←k.len];refine ⟨by omega,?_⟩
   rw [show a.length-1-(a.length-1-j)=j from by omega,q]
   rfl
  obtain ⟨x1,l,i⟩:=Tu p _ c;rw [d] at l;cases l;obtain ⟨o1,r,s,t⟩:=k.get d;have b:=List.all_eq_true.1 n _ c;rw [r] at b;simp only [eX] at b;rw [Bool.false_or];unfold Rc.apart;unfold Wc at i;rw [s,t,f,g];simp only [IqQ] at i b ⊢;simp only [i,b,and_self]
section
variable [U:Facts]
theorem TY {E:Env} {a:Ask→Aa→Option (Bool×AV×Aa)} {all:Array Oper} {nt F:Nat} (p:PR) (rest:List PR) (b:List Rc) (tmps:T AV) (h:Aa) :
  Rf E a all nt (F+1) (p::rest) b tmps h=(match Dp E a all p.o (A0 tmps p.looks) h with
   |none=>none
   |some d=>match Nat.ble h.nx d.g.nx with
    |false=>none
    |true=>match d.ok with
     |false=>none
     |true=>match FX {wr:=BH h.nx d.g.log,fp:=d.fp,lo:=h.nx,hi:=d.g.nx,dst:=p.o.dst,looks:=p.looks,mask:=p.mask} b p.free with
      |false=>none
      |true=>match EB nt tmps p.o.dst d.v with
       |none=>none
       |some c=>Rf E a all nt F rest ({wr:=BH h.nx d.g.log,fp:=d.fp,lo:=h.nx,hi:=d.g.nx,dst:=p.o.dst,looks:=p.looks,mask:=p.mask}::b) c (PV h d.g)):=by
 show Option.casesOn (motive:=fun _=>DrR) (Dp E a all p.o (A0 tmps p.looks) h) none _=_
 cases Dp E a all p.o (A0 tmps p.looks) h with
 |none=>rfl
 |some d=>
  show Bool.casesOn (motive:=fun _=>DrR) (Nat.ble h.nx d.g.nx) none _=_
  simp only;cases Nat.ble h.nx d.g.nx with
  |false=>rfl
  |true=>
   show Bool.casesOn (motive:=fun _=>DrR) d.ok none _=_
   simp only;cases d.ok with
   |false=>rfl
   |true=>
    show Bool.casesOn (motive:=fun _=>DrR) (FX _ b p.free) none _=_
    simp only;cases FX {wr:=BH h.nx d.g.log,fp:=d.fp,lo:=h.nx,hi:=d.g.nx,dst:=p.o.dst,looks:=p.looks,mask:=p.mask} b p.free with
    |false=>rfl
    |true=>
     show Option.casesOn (motive:=fun _=>DrR) (EB nt tmps p.o.dst d.v) none _=_
     simp only;cases EB nt tmps p.o.dst d.v with
     |none=>rfl
     |some c=>rfl
theorem Z0 {E:Env} {c:Ask→Aa→Option (Bool×AV×Aa)} {all:Array Oper} {nt:Nat}:∀(l:List Oper) (n:List Nat) (done:List Oper) (p:List PR) (F:Nat) (b:List Rc) (tmps:T AV) (h:Aa) (r:Option AV×T AV×Aa),
  MI all l n done=some p→n=b.reverse.map Rc.mask→RL2 all b done→Rf E c all nt F p b tmps h=some r→BY E c all nt l b.reverse tmps h=some r:=by
 intro l
 induction l with
 |nil=>
  intro n done p F b tmps h r e q s a;cases e;cases F with
  |zero=>cases a
  |succ F=>exact a
 |cons o rest ih=>
  intro n done p F b tmps h r e q s a;unfold MI at e;split at e
  ·cases e
  ·rename_i m x;split at e
   ·cases e
   ·rename_i t;split at e
    ·cases e
    ·rename_i z u;cases e;cases F with
     |zero=>cases a
     |succ F=>
      rw [q,sK] at x;unfold BY;rw [x];rw [TY] at a;simp only at a ⊢;cases j:Dp E c all o (A0 tmps (Bj all o)) h with
      |none=>rw [j] at a;cases a
      |some d=>
       rw [j] at a;simp only at a ⊢;cases y:Nat.ble h.nx d.g.nx with
       |false=>rw [y] at a;cases a
       |true=>
        rw [y] at a;simp only at a;cases k:d.ok with
        |false=>rw [k] at a;cases a
        |true=>
         rw [k] at a;simp only at a ⊢;cases i:FX {wr:=BH h.nx d.g.log,fp:=d.fp,lo:=h.nx,hi:=d.g.nx,dst:=o.dst,looks:=Bj all o,mask:=m} b (Mn m done.length) with
         |false=>rw [i] at a;cases a
         |true=>
          rw [i] at a;simp only at a;rw [ZY s rfl rfl rfl t i];simp only;cases f:EB nt tmps o.dst d.v with
          |none=>rw [f] at a;cases a
          |some w=>
           rw [f] at a;simp only [Wk] at a ⊢;have:=ih _ _ _ _ _ _ _ _ u (by simp [q]) (RL2.cons rfl rfl s) a
           simpa using this
theorem It {E:Env} {a:Ask→Aa→Option (Bool×AV×Aa)} {all:Array Oper} {nt:Nat} {tmps:T AV} {h:Aa} {r:Option AV×T AV×Aa} (b:XV E a all nt tmps h=some r):BY E a all nt all.toList [] tmps h=some r:=by
 unfold XV at b;cases c:MI all all.toList [] [] with
 |none=>rw [c] at b;exact b
 |some e=>
  rw [c] at b;simp only at b;cases d:Rf E a all nt 100000 e [] tmps h with
  |none=>rw [d] at b;exact b
  |some x=>
   rw [d] at b;cases b;exact Z0 _ _ _ _ _ [] _ _ _ c rfl .nil d
end
end Go.AE
namespace Go.AE
variable [Gl:AJ]
structure CX where
 fn:FuncId
 nt:Nat
 defers:List AD
 kind:CallKind
 round:Option Nat
 cs:List AF
def CX.as (X:CX) (tmps:T AV) (todo:List AI) (mode:HG) (h:Aa):AS:=⟨⟨X.fn,X.nt,tmps,todo,X.defers,mode,X.kind,X.round⟩,X.cs,h⟩
inductive QSt where
 |o (l:List Oper) (all:Array Oper) (k:List AI) (tmps:T AV) (h:Aa) (X:CX)
 |c (c:Code) (k:List AI) (tmps:T AV) (h:Aa) (X:CX)
 |k (k:List AI) (tmps:T AV) (h:Aa) (X:CX)
 |g (s:AS)
abbrev R3:=Option (Bool×AV×Aa)
def M3 (n:Nat) (k:Nat→R3):R3:=Nat.casesOn (motive:=fun _=>R3) n (k 0) (fun m=>k (Nat.succ m))
theorem J3 (n:Nat) (k:Nat→R3):M3 n k=k n:=by cases n<;>rfl
def SM (h:Aa) (k:Aa→R3):R3:=Aa.casesOn (motive:=fun _=>R3) h (fun b n l=>M3 n (fun n=>k ⟨b,n,l⟩))
theorem OG (h:Aa) (k:Aa→R3):SM h k=k h:=by
 obtain ⟨b,n,l⟩:=h;exact J3 n (fun n=>k ⟨b,n,l⟩)
section
variable [U:Facts]
def Jo (ih:QSt→R3) (s:AS):R3:=match s with
 |⟨⟨fn,nt,tmps,todo,defers,mode,kind,round⟩,cs,h⟩=>match mode with
  |.run=>M3 fn fun fn=>M3 nt fun nt=>SM h fun h=>ih (.k todo tmps h ⟨fn,nt,defers,kind,round,cs⟩)
  |m=>ih (.g ⟨⟨fn,nt,tmps,todo,defers,m,kind,round⟩,cs,h⟩)
def gen (E:Env) (d:FuncId) (e:Bool) (ih:QSt→R3) (a:Ask→Aa→R3) (s:AS):R3:=match VY E s with
   |some b=>(match Nat.ble s.h.nx b.h.nx with
     |true=>Jo ih b
     |false=>none)
   |none=>match A8 E s with
    |.next b=>match Nat.ble s.h.nx b.h.nx with
      |true=>Jo ih b
      |false=>none
    |.done ok v h=>match Nat.ble s.h.nx h.nx&&Nat.beq s.fr.fn d&&(e||s.fr.round.isNone) with
      |true=>some (ok,v,h)
      |false=>none
    |.draw s ops k=>
      match XV E a ops s.fr.nt s.fr.tmps s.h with
      |some (none,tmps,h)=>Jo ih {s with fr:={s.fr with tmps,todo:=k},h}
      |some (some v,tmps,h)=>Jo ih {s with fr:={s.fr with tmps,todo:=.dead::k,mode:=.panic [(v,false)]},h}
      |none=>none
    |.bad _=>match ZS E a 100000 s with
      |some c=>match Nat.ble s.h.nx c.h.nx with
        |true=>Jo ih c
        |false=>none
      |none=>none
def iL (v:Value):AV:=match ofValue v with
  |some a=>a
  |none=>.top
def vH (i:Tmp) (t:T AV):AV:=Option.casesOn (motive:=fun _=>AV) (T.get t i) .top fun v=>v
def j8 (v:Value) (t:T AV):AV:=iL v
def tF (g:Nat) (t:T AV):AV:=.glob g 0
def uW (g:FuncId) (t:T AV):AV:=.func (.func g) [] []
def evF (t:T AV) (x:Operand):AV:=Operand.casesOn (motive:=fun _=>T AV→AV) x vH j8 tF uW t
abbrev OT:=Env→(QSt→R3)→Oper→List Oper→Array Oper→List AI→Option Tmp→T AV→Aa→CX→R3
def onK (E:Env) (ih:QSt→R3) (rest:List Oper) (all:Array Oper) (k:List AI) (dst:Option Tmp) (tmps:T AV) (X:CX) (v:AV) (h:Aa):R3:=
 Option.casesOn (motive:=fun _=>R3) dst (ih (.o rest all k tmps h X)) (fun d=>Bool.casesOn (motive:=fun _=>R3) (Nat.blt d X.nt) none (ih (.o rest all k (T.set tmps d v) h X)))
def Xq (E:Env) (ih:QSt→R3) (rest:List Oper) (all:Array Oper) (k:List AI) (dst:Option Tmp) (tmps:T AV) (X:CX) (v:AV) (h:Aa):R3:=SM h fun h=>onK E ih rest all k dst tmps X v h
theorem Ln (E:Env) (ih:QSt→R3) (rest:List Oper) (all:Array Oper) (k:List AI) (dst:Option Tmp) (tmps:T AV) (X:CX) (v:AV) (h:Aa):Xq E ih rest all k dst tmps X v h=onK E ih rest all k dst tmps X v h:=OG _ _
def DQ (E:Env) (ih:QSt→R3) (o:Oper) (rest:List Oper) (all:Array Oper) (k:List AI) (tmps:T AV) (h:Aa) (X:CX):R3:=ih (.g (X.as tmps (.ops all (o::rest)::k) .run h))
def Lg (E:Env) (ih:QSt→R3) (o:Oper) (rest:List Oper) (all:Array Oper) (k:List AI) (dst:Option Tmp) (tmps:T AV) (h:Aa) (X:CX) (r:Option AV):R3:=
 Option.casesOn (motive:=fun _=>R3) r (DQ E ih o rest all k tmps h X) (fun v=>onK E ih rest all k dst tmps X v h)
def St (E:Env) (ih:QSt→R3) (o:Oper) (rest:List Oper) (all:Array Oper) (k:List AI) (dst:Option Tmp) (tmps:T AV) (h:Aa) (X:CX) (r:Option (AV×Aa)):R3:=
 Option.casesOn (motive:=fun _=>R3) r (DQ E ih o rest all k tmps h X) (fun p=>Prod.casesOn (motive:=fun _=>R3) p (fun v h'=>Bool.casesOn (motive:=fun _=>R3) (Nat.ble h.nx h'.nx) none (Xq E ih rest all k dst tmps X v h')))
def Yk (E:Env) (ih:QSt→R3) (o:Oper) (rest:List Oper) (all:Array Oper) (k:List AI) (dst:Option Tmp) (tmps:T AV) (h:Aa) (X:CX) (r:Option Aa):R3:=
 Option.casesOn (motive:=fun _=>R3) r (DQ E ih o rest all k tmps h X) (fun h'=>Bool.casesOn (motive:=fun _=>R3) (Nat.ble h.nx h'.nx) none (Xq E ih rest all k dst tmps X AV.undef h'))
def dt:OT:=fun E ih o rest all k dst tmps h X=>DQ E ih o rest all k tmps h X
def fx (x:Operand):OT:=fun E ih o rest all k dst tmps h X=>onK E ih rest all k dst tmps X (evF tmps x) h
def yt (a:BinOp) (t:TypeId) (x y:Operand) (_:TypeId):OT:=fun E ih o rest all k dst tmps h X=>Lg E ih o rest all k dst tmps h X (jg E a t x y (evF tmps x) (evF tmps y))
def oUn (a:UnOp) (_:TypeId) (x:Operand):OT:=fun E ih o rest all k dst tmps h X=>Lg E ih o rest all k dst tmps h X (unB a (evF tmps x))
def nY (t:TypeId) (a:Operand):OT:=fun E ih o rest all k dst tmps h X=>Lg E ih o rest all k dst tmps h X (Vu E t (evF tmps a) h)
def lj (t:TypeId) (x:Operand) (f:Nat):OT:=fun E ih o rest all k dst tmps h X=>Lg E ih o rest all k dst tmps h X (PD E t (evF tmps x) f)
def Ud (t:TypeId) (x:Operand) (f:Nat):OT:=fun E ih o rest all k dst tmps h X=>Lg E ih o rest all k dst tmps h X (FU E t (evF tmps x) f)
def To (t:TypeId) (x i:Operand):OT:=fun E ih o rest all k dst tmps h X=>Lg E ih o rest all k dst tmps h X (Gg E t (evF tmps x) (evF tmps i))
def j4 (t:TypeId) (x i:Operand):OT:=fun E ih o rest all k dst tmps h X=>Lg E ih o rest all k dst tmps h X (Pk E t (evF tmps x) (evF tmps i))
def j9 (t:TypeId) (a x:Operand):OT:=fun E ih o rest all k dst tmps h X=>Yk E ih o rest all k dst tmps h X (JP E t (evF tmps a) (evF tmps x) h)
def Nb (t:Operand) (i:Nat):OT:=fun E ih o rest all k dst tmps h X=>match evF tmps t with
 |.tuple a=>Lg E ih o rest all k dst tmps h X a[i]?
 |_=>DQ E ih o rest all k tmps h X
def S5 (t:TypeId):OT:=fun E ih o rest all k dst tmps h X=>Option.casesOn (motive:=fun _=>R3) (E.zero t) (DQ E ih o rest all k tmps h X) (fun z=>Xq E ih rest all k dst tmps X (.ptr h.nx 0) (Bx h z.cells))
def gd (t:TypeId) (a:Array (Nat×Operand)):OT:=fun E ih o rest all k dst tmps h X=>Lg E ih o rest all k dst tmps h X (Pf E t (a.toList.map fun (i,x)=>(i,evF tmps x)))
def Rg (t:TypeId) (len:Nat) (a:Array (Nat×Operand)):OT:=fun E ih o rest all k dst tmps h X=>St E ih o rest all k dst tmps h X (E4 E t len (a.toList.map fun (i,x)=>(i,evF tmps x)) h)
def kH (x:Operand):OT:=fun E ih o rest all k dst tmps h X=>match evF tmps x with
 |.ptr b off=>onK E ih rest all k dst tmps X (.ptr b off) h
 |_=>DQ E ih o rest all k tmps h X
def gh (t:TypeId) (x:Operand):OT:=fun E ih o rest all k dst tmps h X=>match E.desc t with
  |some (.interface _)=>DQ E ih o rest all k tmps h X
  |some _=>onK E ih rest all k dst tmps X (.iface t (evF tmps x)) h
  |none=>DQ E ih o rest all k tmps h X
def jq (fn:Fn) (first captured:Array Operand):OT:=fun E ih o rest all k dst tmps h X=>match fn with
 |.yield _=>DQ E ih o rest all k tmps h X
 |fn=>onK E ih rest all k dst tmps X (.func fn (first.toList.map (evF tmps)) (captured.toList.map (evF tmps))) h
def Ro (tmps:T AV):Option Operand→Option AV
 |some o=>some (evF tmps o)
 |none=>none
def Tl (t:TypeId) (x:Operand) (lo hi a:Option Operand):OT:=fun E ih o rest all k dst tmps h X=>match a,hi with
  |some _,none=>DQ E ih o rest all k tmps h X
  |_,_=>St E ih o rest all k dst tmps h X (sliceB E t (evF tmps x) (Ro tmps lo) (Ro tmps hi) (Ro tmps a) h)
def YG (c a b:Operand):OT:=fun E ih o rest all k dst tmps h X=>match evF tmps c with
 |.bool true=>onK E ih rest all k dst tmps X (evF tmps a) h
 |.bool false=>onK E ih rest all k dst tmps X (evF tmps b) h
 |_=>DQ E ih o rest all k tmps h X
def mf (s d:TypeId) (x:Operand):OT:=fun E ih o rest all k dst tmps h X=>St E ih o rest all k dst tmps h X (UN E s d (evF tmps x) h)
def dI (t:TypeId) (m i:Operand) (ok:Bool):OT:=fun E ih o rest all k dst tmps h X=>Lg E ih o rest all k dst tmps h X (Lu E t (evF tmps m) (evF tmps i) ok h)
def TF (E:Env) (ih:QSt→R3) (o:Oper) (rest:List Oper) (all:Array Oper) (k:List AI) (tmps:T AV) (X:CX) (g:FuncId) (args:List AV) (h:Aa):R3:=match Kz E g args h with
  |some _=>DQ E ih o rest all k tmps h X
  |none=>match E.fn.get g with
   |some fn=>match fn.body with
    |some b=>M3 (max fn.ntmps args.length) fun nt=>ih (.c b [] (.ofList args) h ⟨g,nt,[],.normal,none,⟨X.fn,X.nt,tmps,.ops all (o::rest)::k,X.defers,.run,X.kind,X.round⟩::X.cs⟩)
    |none=>DQ E ih o rest all k tmps h X
   |none=>none
def XF (E:Env) (ih:QSt→R3) (o:Oper) (rest:List Oper) (all:Array Oper) (k:List AI) (dst:Option Tmp) (tmps:T AV) (h:Aa) (X:CX) (r:Res):R3:=match r with
 |.val v h'=>Bool.casesOn (motive:=fun _=>R3) (Nat.ble h.nx h'.nx) none (Xq E ih rest all k dst tmps X v h')
 |.enter g args h'=>TF E ih o rest all k tmps X g args h'
 |_=>DQ E ih o rest all k tmps h X
def Iv (tmps:T AV):List Operand→List AV
 |[]=>[]
 |x::r=>evF tmps x::Iv tmps r
def gz (f:Operand):Call→OT:=fun c E ih o rest all k dst tmps h X=>match evF tmps f with
  |.func fn first captured=>XF E ih o rest all k dst tmps h X (Ca E fn captured (first++Iv tmps c.args.toList) h)
  |_=>DQ E ih o rest all k tmps h X
def yZ (r:Operand) (name:String):Call→OT:=fun c E ih o rest all k dst tmps h X=>XF E ih o rest all k dst tmps h X (Ca E (.method name) [] (evF tmps r::Iv tmps c.args.toList) h)
def gC (b:Builtin):Call→OT:=fun c E ih o rest all k dst tmps h X=>XF E ih o rest all k dst tmps h X (FM E b c.argTypes.toList (Iv tmps c.args.toList) h)
def ay (c:Call):OT:=Callee.casesOn (motive:=fun _=>Call→OT) c.callee gz yZ gC c
def Oq {a:Type} (_:a):OT:=dt
def K4 {a b:Type} (_:a) (_:b):OT:=dt
def af {a b c:Type} (_:a) (_:b) (_:c):OT:=dt
def VU {a b c d:Type} (_:a) (_:b) (_:c) (_:d):OT:=dt
def opF (a:Op):OT:=Op.casesOn (motive:=fun _=>OT) a
 fx fx YG S5 K4 gd Rg VU
 nY j9 Oq Oq kH yt oUn
 mf K4 gh jq K4 K4 af Tl
 Ud lj To j4 dI VU af VU
 K4 K4 Oq VU Nb ay Oq Oq Oq
 K4 af K4
def Wp (E:Env) (tmps:T AV) (h:Aa):List ResultVar→Option (List AV)
 |[]=>some []
 |.tmp t::r=>match Wp E tmps h r with
  |some l=>some ((match T.get tmps t with|some v=>v|none=>.top)::l)
  |none=>none
 |.cell a t::r=>match T.get tmps a with
  |some p=>match O0 E t p h,Wp E tmps h r with
   |some v,some l=>some (v::l)
   |_,_=>none
  |none=>none
def jy (l:List AV):AV:=match l with
 |[v]=>v
 |l=>.tuple l
abbrev KT:=Env→FuncId→(QSt→R3)→List AI→T AV→Aa→CX→R3
def L4 (E:Env) (a:FuncId) (ih:QSt→R3) (c:Code) (k:List AI) (tmps:T AV) (h:Aa) (X:CX):R3:=ih (.g (X.as tmps (.code c::k) .run h))
def eB (E:Env) (a:FuncId) (ih:QSt→R3) (X:CX) (v:AV) (h:Aa) (EM:Unit→R3):R3:=match X.kind,X.cs with
 |.normal,⟨fn,nt,tmps,todo,defers,.run,kind,round⟩::cs=>match todo with
  |.ops all (o::rest)::k=>onK E ih rest all k o.dst tmps ⟨fn,nt,defers,kind,round,cs⟩ v h
  |.inRange l::k=>ih (.k (.endRange l::k) tmps h ⟨fn,nt,defers,kind,round,cs⟩)
  |_=>EM ()
 |.normal,[]=>match Nat.beq X.fn a with
  |true=>some (true,v,h)
  |false=>none
 |_,_=>EM ()
def aY (E:Env) (a:FuncId) (ih:QSt→R3) (tmps:T AV) (h:Aa) (X:CX) (EM:Unit→R3):R3:=match X.round,X.defers with
 |none,[]=>match E.fn.get X.fn with
  |some fn=>match Wp E tmps h fn.results.toList with
   |some l=>eB E a ih X (jy l) h EM
   |none=>none
  |none=>none
 |_,_=>EM ()
def ep:KT:=fun E a ih k tmps h X=>ih (.k k tmps h X)
def dM (id:Nat) (ops:Array Oper) (a:Bool):KT:=fun E b ih k tmps h X=>Bool.casesOn (motive:=fun _=>R3) a (ih (.o ops.toList ops k tmps h X)) (L4 E b ih (.region id ops a) k tmps h X)
def yd (a b:Code):KT:=fun E d ih k tmps h X=>ih (.c a (.code b::k) tmps h X)
def XK (c:Operand) (x y:Code):KT:=fun E a ih k tmps h X=>match evF tmps c with
 |.bool b=>Bool.casesOn (motive:=fun _=>R3) b (ih (.c y k tmps h X)) (ih (.c x k tmps h X))
 |_=>L4 E a ih (.cond c x y) k tmps h X
def jH (id:Nat) (b:Code):KT:=fun E a ih k tmps h X=>ih (.c b (.inBlock id::k) tmps h X)
def rR (b:Code):KT:=fun E a ih k tmps h X=>ih (.c b (.inLoop b::k) tmps h X)
def ia (b:Code):KT:=fun E a ih k tmps h X=>ih (.c b (.inScope b::k) tmps h X)
def fR (f:Operand) (c:Array Tmp) (a b:Code):KT:=fun E d ih k tmps h X=>L4 E d ih (.rangeFunc f c a b) k tmps h X
def Zq (id:Nat):KT:=fun E a ih k tmps h X=>Option.casesOn (motive:=fun _=>R3) (KA id k) (L4 E a ih (.exit id) k tmps h X) (fun b=>ih (.k b tmps h X))
def j6 (_:Nat):KT:=ep
def qM (l:Nat):KT:=fun E a ih k tmps h X=>L4 E a ih (.goto l) k tmps h X
def yo:KT:=fun E a ih k tmps h X=>aY E a ih tmps h X (fun _=>L4 E a ih .ret k tmps h X)
def bz (w:String):KT:=fun _ _ _ _ _ _ _=>none
def Zg (c:Code):KT:=Code.casesOn (motive:=fun _=>KT) c ep dM yd XK jH rR fR Zq ia j6 qM yo bz
def kF (E:Env) (a:FuncId) (ih:QSt→R3) (k:List AI) (tmps:T AV) (h:Aa) (X:CX):R3:=match k with
 |[]=>aY E a ih tmps h X (fun _=>ih (.g (X.as tmps [] .run h)))
 |.code c::k=>Zg c E a ih k tmps h X
 |.inBlock _::k=>ih (.k k tmps h X)
 |.inScope _::k=>ih (.k k tmps h X)
 |.inLoop b::k=>ih (.c b (.inLoop b::k) tmps h X)
 |.ops all l::k=>ih (.o l all k tmps h X)
 |k=>ih (.g (X.as tmps k .run h))
def j7 (E:Env) (ih:QSt→R3) (l:List Oper) (all:Array Oper) (k:List AI) (tmps:T AV) (h:Aa) (X:CX):R3:=match l with
  |[]=>ih (.k k tmps h X)
  |o::rest=>match o.guard with
    |none=>opF o.op E ih o rest all k o.dst tmps h X
    |some _=>match BL all o tmps with
       |some true=>opF o.op E ih o rest all k o.dst tmps h X
       |some false=>onK E ih rest all k o.dst tmps X AV.undef h
       |none=>none
def UV (E:Env) (run:FuncId→Bool→QSt→R3) (a:Ask) (h:Aa):R3:=match a with
 |.enter g args=>match Kz E g args h with
  |some r=>some r
  |none=>match Be E g args .normal with
   |some fr=>Jo (run fr.fn true) {fr,cs:=[],h}
   |none=>none
 |.round l args=>match GZ l args h with
  |some fr=>Jo (run fr.fn true) {fr,cs:=[],h}
  |none=>none
def goB (E:Env) (b:FuncId→Bool→QSt→R3) (e:Ask→Aa→R3) (n:Nat):FuncId→Bool→QSt→R3:=Nat.rec (motive:=fun _=>FuncId→Bool→QSt→R3) b (fun f ih a d s=>
  QSt.casesOn (motive:=fun _=>R3) s
   (fun l all k tmps h X=>j7 E (ih a d) l all k tmps h X)
   (fun c k tmps h X=>Zg c E a (ih a d) k tmps h X)
   (fun k tmps h X=>kF E a (ih a d) k tmps h X)
   (fun s=>gen E a d (ih a d) e s)) n
def noB:FuncId→Bool→QSt→R3:=fun _ _ _=>none
def cfN (E:Env) (L:Nat):Ask→Aa→R3:=Nat.rec (motive:=fun _=>Ask→Aa→R3) (fun _ _=>none) (fun _ ih=>UV E (goB E noB ih 1000000)) L
def Xy (E:Env) (b:FuncId→Bool→QSt→R3) (n:Nat) (f:FuncId) (args:List AV) (h:Aa):R3:=
 match Be E f args .normal with
 |some fr=>Jo (goB E b (cfN E 40) n f false) {fr,cs:=[],h}
 |none=>none
def HS (E:Env) (b:FuncId→Bool→QSt→R3) (N:Nat) (e:Orc):Bool:=
 match Xy E b N e.f e.args {blk:=e.part,nx:=e.nx,log:=[]} with
 |some (ok,v,g)=>(ok==e.ok)&&By v e.v&&NJ e.out g.blk&&Nat.beq g.nx e.nx'&&WC e.nx e.wr g.log
 |none=>false
def Dt (E:Env) (N:Nat) (e:Orc):Bool:=HS E noB N e
end
def QSt.as:QSt→AS
 |.o l all td tmps h X=>X.as tmps (.ops all l::td) .run h
 |.c r td tmps h X=>X.as tmps (.code r::td) .run h
 |.k td tmps h X=>X.as tmps td .run h
 |.g s=>s
section
variable [U:Facts]
inductive Ch (E:Env):AS→AS→Prop
 |refl (s:AS):Ch E s s
 |head {s s1 s2:AS} (h:A8 E s=.next s1) (hn:s.h.nx≤s1.h.nx) (k:Ch E s1 s2):Ch E s s2
theorem Ch.one {E:Env} {s l:AS} (h:A8 E s=.next l) (r:s.h.nx≤l.h.nx):Ch E s l:=.head h r (.refl l)
def Via (E:Env) (b:FuncId) (ih:QSt→R3) (s:AS) (r:R3):Prop:=∀x,r=some x→(∃st,Ch E s st.as∧ih st=some x)∨(∃a,Ch E s a∧A8 E a=.done true x.2.1 x.2.2∧x.1=true∧a.fr.fn=b∧a.fr.round=none∧a.h.nx≤x.2.2.nx)
theorem Via.none {E:Env} {l:FuncId} {ih:QSt→R3} {s:AS}:Via E l ih s none:=fun x h=>by cases h
theorem Via.ih {E:Env} {l:FuncId} {ih:QSt→R3} {s:AS} (st:QSt) (h:Ch E s st.as):Via E l ih s (ih st):=fun x r=>.inl ⟨st,h,r⟩
theorem Qj (t:T AV) (x:Operand):evF t x=Ah t x:=by
 cases x with
 |tmp i=>simp only [evF,vH,Ah];cases t.get i<;>rfl
 |const v=>rfl
 |global g=>rfl
 |func g=>rfl
theorem I6 (t:T AV):∀l:List Operand,Iv t l=l.map (Ah t)
 |[]=>rfl
 |x::r=>by simp [Iv,I6 t r,Qj]
theorem Bb (t:T AV):evF t=Ah t:=funext (Qj t)
theorem Ru (h:Aa) (l:List AV):h.nx≤(Bx h l).nx:=by simp [Bx,Aa.new]
theorem Uh {E:Env} {t:TypeId} {x v:AV} {h h':Aa} (a:JP E t x v h=some h'):Jl E t x v h=some h':=by
 cases x<;>first | (cases a;done)|skip
 exact a
theorem NL {n:String} {args a:List AV} {h h':Aa} {g:FuncId} (e:Lj n args h=.enter g a h'):False:=by
 unfold Lj at e
 repeat' (first | (cases e;done)|split at e)
theorem K3 {E:Env} {f g:FuncId} {args a:List AV} {h h':Aa} (e:Rx E f args h=.enter g a h'):h'=h:=by
 unfold Rx at e
 repeat' (first | (cases e;done)|split at e)
 all_goals first | (cases e;rfl)|exact (NL e).elim
theorem Pz {E:Env} {tmps:T AV} {c:Call} {h h':Aa} {g:FuncId} {a:List AV} (e:Dx E tmps c h=.enter g a h'):h'=h:=by
 unfold Dx at e;simp only at e;split at e
 ·unfold FM BP Dk EA at e
  repeat' (first | (cases e;done)|split at e)
 ·unfold Ca at e
  repeat' (first | (cases e;done)|exact K3 e|split at e)
 ·split at e
  ·unfold Ca at e
   repeat' (first | (cases e;done)|exact K3 e|split at e)
  ·cases e
theorem Rb {E:Env} {o:Oper} {rest:List Oper} {all:Array Oper} {k:List AI} {tmps a:T AV} {h h':Aa} {X:CX} {v:AV} (b:BL all o tmps=some true) (c:aop E tmps h o.op=.val v h') (d:EB X.nt tmps o.dst v=some a) :
  A8 E (X.as tmps (.ops all (o::rest)::k) .run h)=.next (X.as a (.ops all rest::k) .run h'):=by
 simp only [A8,CX.as,b,c,BS,B2,d]
theorem CO {E:Env} {i:FuncId} {ih:QSt→R3} {o:Oper} {rest:List Oper} {all:Array Oper} {k:List AI} {tmps:T AV} {h h':Aa} {X:CX} {v:AV} (c:BL all o tmps=some true) (e:aop E tmps h o.op=.val v h') (f:h.nx≤h'.nx) :
  Via E i ih (X.as tmps (.ops all (o::rest)::k) .run h) (onK E ih rest all k o.dst tmps X v h'):=by
 unfold onK;cases g:o.dst with
 |none=>
  have a:EB X.nt tmps o.dst v=some tmps:=by rw [g];rfl
  exact Via.ih (.o rest all k tmps h' X) (.one (Rb c e a) f)
 |some d=>
  cases b:Nat.blt d X.nt with
  |false=>simp only;rw [b];exact Via.none
  |true=>
   have a:EB X.nt tmps o.dst v=some (tmps.set d v):=by rw [g];simp only [EB,b]
   simp only;rw [b];exact Via.ih (.o rest all k (tmps.set d v) h' X) (.one (Rb c e a) f)
theorem A9 {E:Env} {a:FuncId} {ih:QSt→R3} {o:Oper} {rest:List Oper} {all:Array Oper} {k:List AI} {tmps:T AV} {h:Aa} {X:CX} :
  Via E a ih (X.as tmps (.ops all (o::rest)::k) .run h) (DQ E ih o rest all k tmps h X):=Via.ih (.g _) (Ch.refl (X.as tmps (.ops all (o::rest)::k) .run h))
section
variable {E:Env} {f0:FuncId} {ih:QSt→R3} {o:Oper} {rest:List Oper} {all:Array Oper} {k:List AI} {tmps:T AV} {h:Aa} {X:CX} (hw:BL all o tmps=some true)
include hw
theorem Cz {r:Option AV} (a:∀v,r=some v→aop E tmps h o.op=.val v h):Via E f0 ih (X.as tmps (.ops all (o::rest)::k) .run h) (Lg E ih o rest all k o.dst tmps h X r):=by
 unfold Lg;cases r with
 |none=>exact A9
 |some v=>exact CO hw (a v rfl) (L1 _)
theorem J6 {r:Option (AV×Aa)} (a:∀v h',r=some (v,h')→aop E tmps h o.op=.val v h'):Via E f0 ih (X.as tmps (.ops all (o::rest)::k) .run h) (St E ih o rest all k o.dst tmps h X r):=by
 unfold St;simp only [Ln];cases r with
 |none=>exact A9
 |some p=>
  obtain ⟨v,h'⟩:=p;simp only;cases b:Nat.ble h.nx h'.nx with
  |false=>exact Via.none
  |true=>exact CO hw (a v h' rfl) (hH b)
theorem WB {r:Option Aa} (a:∀h',r=some h'→aop E tmps h o.op=.val .undef h'):Via E f0 ih (X.as tmps (.ops all (o::rest)::k) .run h) (Yk E ih o rest all k o.dst tmps h X r):=by
 unfold Yk;simp only [Ln];cases r with
 |none=>exact A9
 |some h'=>
  simp only;cases b:Nat.ble h.nx h'.nx with
  |false=>exact Via.none
  |true=>exact CO hw (a h' rfl) (hH b)
theorem Up {g:FuncId} {args:List AV} (d:aop E tmps h o.op=.enter g args h):Via E f0 ih (X.as tmps (.ops all (o::rest)::k) .run h) (TF E ih o rest all k tmps X g args h):=by
 unfold TF;split
 ·exact A9
 ·split
  ·rename_i fn a;split
   ·rename_i b e;rw [J3];refine Via.ih (.c b [] (.ofList args) h _) (.one ?_ (L1 _));simp only [A8,CX.as,hw,d,BS,Be,a,e,QSt.as]
   ·exact A9
  ·exact Via.none
theorem LW {r:Res} (a:aop E tmps h o.op=r) (b:∀g args h',r=.enter g args h'→h'=h):Via E f0 ih (X.as tmps (.ops all (o::rest)::k) .run h) (XF E ih o rest all k o.dst tmps h X r):=by
 unfold XF;simp only [Ln];cases r with
 |val v h'=>
  simp only;cases c:Nat.ble h.nx h'.nx with
  |false=>exact Via.none
  |true=>exact CO hw a (hH c)
 |enter g args h'=>
  have:=b g args h' rfl;subst this;exact Up hw a
 |_=>exact A9
end
section
variable {E:Env} {f0:FuncId} {ih:QSt→R3} {o:Oper} {rest:List Oper} {all:Array Oper} {k:List AI} {tmps:T AV} {h:Aa} {X:CX} (hw:BL all o tmps=some true)
include hw
theorem VF:Via E f0 ih (X.as tmps (.ops all (o::rest)::k) .run h) (opF o.op E ih o rest all k o.dst tmps h X):=by
 have le:=L1 h.nx;generalize j:o.op=p;cases p with
 |move x=>exact CO (v:=evF tmps x) hw (by rw [j,Bb];rfl) le
 |assign x=>exact CO (v:=evF tmps x) hw (by rw [j,Bb];rfl) le
 |pick c a b=>
  show Via E f0 ih _ (YG c a b E ih o rest all k o.dst tmps h X);unfold YG;rw [Bb];split
  ·rename_i l;exact CO hw (by rw [j];simp only [aop,l]) le
  ·rename_i l;exact CO hw (by rw [j];simp only [aop,l]) le
  ·exact A9
 |alloc t=>
  show Via E f0 ih _ (S5 t E ih o rest all k o.dst tmps h X);unfold S5;simp only [Ln];cases A:E.zero t with
  |none=>exact A9
  |some z=>exact CO hw (by rw [j];simp only [aop,A]) (Ru h z.cells)
 |load t a=>exact Cz hw (fun v hv=>by rw [j];rw [Bb] at hv;simp only [aop,hv,BP])
 |store t a x=>exact WB hw (fun h' hv=>by rw [j];rw [Bb] at hv;simp only [aop,Uh hv,EA])
 |build t B=>exact Cz hw (fun v hv=>by rw [j];rw [Bb] at hv;simp only [aop,hv,BP])
 |buildSlice t len B=>exact J6 hw (fun v h' hv=>by rw [j];rw [Bb] at hv;simp only [aop,hv,Dk])
 |nilCheck x=>
  show Via E f0 ih _ (kH x E ih o rest all k o.dst tmps h X);unfold kH;rw [Bb];split
  ·rename_i l;exact CO hw (by rw [j];simp only [aop,l]) le
  ·exact A9
 |binOp p t x y u=>exact Cz hw (fun v hv=>by rw [j];rw [Bb] at hv;simp only [aop,hv,BP])
 |unOp p t x=>exact Cz hw (fun v hv=>by rw [j];rw [Bb] at hv;simp only [aop,hv,BP])
 |convert s d x=>exact J6 hw (fun v h' hv=>by rw [j];rw [Bb] at hv;simp only [aop,hv,Dk])
 |makeInterface t x=>
  show Via E f0 ih _ (gh t x E ih o rest all k o.dst tmps h X);unfold gh;rw [Bb];split
  ·exact A9
  ·rename_i d C D;exact CO hw (by rw [j];simp only [aop,D]) le
  ·exact A9
 |makeFunc fn first captured=>
  show Via E f0 ih _ (jq fn first captured E ih o rest all k o.dst tmps h X);unfold jq;rw [Bb];split
  ·exact A9
  ·exact CO hw (by rw [j];simp only [aop]) le
 |slice t x lo hi F=>
  show Via E f0 ih _ (Tl t x lo hi F E ih o rest all k o.dst tmps h X);have n:Ro tmps=A6 tmps:=by funext q;cases q<;>simp [Ro,A6,Qj]
  unfold Tl;rw [Bb,n];split
  ·exact A9
  ·exact J6 hw (fun v h' hv=>by rw [j];simp only [aop,hv,Dk])
 |fieldAddr t x f=>exact Cz hw (fun v hv=>by rw [j];rw [Bb] at hv;simp only [aop,hv,BP])
 |field t x f=>exact Cz hw (fun v hv=>by rw [j];rw [Bb] at hv;simp only [aop,hv,BP])
 |indexAddr t x i=>exact Cz hw (fun v hv=>by rw [j];rw [Bb] at hv;simp only [aop,hv,BP])
 |index t x i=>exact Cz hw (fun v hv=>by rw [j];rw [Bb] at hv;simp only [aop,hv,BP])
 |lookup t m i ok=>exact Cz hw (fun v hv=>by rw [j];rw [Bb] at hv;simp only [aop,hv,BP])
 |extract t i=>
  show Via E f0 ih _ (Nb t i E ih o rest all k o.dst tmps h X);unfold Nb;rw [Bb];split
  ·rename_i H l;exact Cz hw (fun v hv=>by rw [j];simp only [aop,l,hv,BP])
  ·exact A9
 |call c=>
  have w:∀r,Dx E tmps c h=r→aop E tmps h o.op=r:=fun r e=>by rw [j];exact e
  have n:∀r,Dx E tmps c h=r→∀g args h',r=.enter g args h'→h'=h:=fun r e g args h' q=>Pz (e.trans q)
  show Via E f0 ih _ (ay c E ih o rest all k o.dst tmps h X);unfold ay;cases l:c.callee with
  |value f=>
   show Via E f0 ih _ (gz f c E ih o rest all k o.dst tmps h X);unfold gz;rw [Bb];split
   ·rename_i fn first captured G;have e:Dx E tmps c h=Ca E fn captured (first++Iv tmps c.args.toList) h:=by simp only [Dx,l,G,I6]
    exact LW hw (w _ e) (n _ e)
   ·exact A9
  |invoke r name=>
   have e:Dx E tmps c h=Ca E (.method name) [] (evF tmps r::Iv tmps c.args.toList) h:=by simp only [Dx,l,I6,Qj]
   exact LW hw (w _ e) (n _ e)
  |builtin b=>
   have e:Dx E tmps c h=FM E b c.argTypes.toList (Iv tmps c.args.toList) h:=by simp only [Dx,l,I6]
   exact LW hw (w _ e) (n _ e)
 |_=>exact A9
end
theorem RI {E:Env} {e:FuncId} {ih:QSt→R3} {s:AS} {dst:Option Tmp} {rest:List Oper} {all:Array Oper} {k:List AI} {tmps:T AV} {h:Aa} {X:CX} {v:AV} (b:∀c,EB X.nt tmps dst v=some c→Ch E s (X.as c (.ops all rest::k) .run h)) :
  Via E e ih s (onK E ih rest all k dst tmps X v h):=by
 unfold onK;cases dst with
 |none=>exact Via.ih (.o rest all k tmps h X) (b tmps rfl)
 |some d=>
  cases a:Nat.blt d X.nt with
  |false=>simp only;rw [a];exact Via.none
  |true=>
   simp only;rw [a];exact Via.ih (.o rest all k (tmps.set d v) h X) (b _ (by simp only [EB,a]))
theorem W7 {E:Env} {b:FuncId} {ih:QSt→R3} {l:List Oper} {all:Array Oper} {k:List AI} {tmps:T AV} {h:Aa} {X:CX}:Via E b ih (X.as tmps (.ops all l::k) .run h) (j7 E ih l all k tmps h X):=by
 unfold j7;split
 ·exact Via.ih (.k k tmps h X) (.one (by simp only [A8,CX.as,QSt.as]) (L1 _))
 ·rename_i o rest;split
  ·rename_i c;exact VF (by unfold BL;rw [c])
  ·split
   ·rename_i a;exact VF a
   ·rename_i a;refine RI fun e d=>.one ?_ (L1 _)
    simp only [A8,CX.as,a,BS,B2,d]
   ·exact Via.none
theorem PP {E:Env} {tmps:T AV} {h:Aa} (fr:AF) (b:fr.tmps=tmps):∀l:List ResultVar,Wp E tmps h l=BI E fr h l
 |[]=>rfl
 |.tmp t::r=>by simp only [Wp,BI,PP fr b r,b];rfl
 |.cell a t::r=>by simp only [Wp,BI,PP fr b r,b];rfl
theorem R8 {E:Env} {j:FuncId} {ih:QSt→R3} {td:List AI} {tmps:T AV} {h:Aa} {X:CX} {EM:Unit→R3} (z:X.round=none→A8 E (X.as tmps td .run h)=.next (X.as tmps td .ret h)) (c:Via E j ih (X.as tmps td .run h) (EM ())) :
  Via E j ih (X.as tmps td .run h) (aY E j ih tmps h X EM):=by
 unfold aY;split
 ·rename_i y A;have m:=z y;split
  ·rename_i fn n;split
   ·rename_i l p;have p:BI E (X.as tmps td .ret h).fr h fn.results.toList=some l:=(PP (X.as tmps td .ret h).fr rfl _).symm.trans p
    have d:A8 E (X.as tmps td .ret h)=CI (X.as tmps td .ret h).fr X.cs (jy l) h:=by
     have e:A8 E (X.as tmps td .ret h)=Eh E (X.as tmps td .ret h).fr X.cs h:=rfl;rw [e];unfold Eh;have q:(X.as tmps td .ret h).fr.defers=[]:=A;have s:(X.as tmps td .ret h).fr.mode=.ret:=rfl;have t:E.fn.get (X.as tmps td .ret h).fr.fn=some fn:=n;rw [q,s,t];simp only [p]
     match l with
     |[]=>rfl
     |[v]=>rfl
     |a::b::r=>rfl
    unfold eB;split
    ·rename_i f nt tm todo B kd C cs u g;have i:(X.as tmps td .ret h).fr.kind=.normal:=u;rw [g] at d;simp only [CI,i] at d;split
     ·rename_i all o rest k;refine RI fun D w=>.head m (L1 _) (.one ?_ (L1 _))
      rw [d];have w:EB nt tm o.dst (jy l)=some D:=w;simp only [B2,w];rfl
     ·rename_i F k;refine Via.ih (.k (.endRange F::k) tm h ⟨f,nt,B,kd,C,cs⟩) (.head m (L1 _) (.one ?_ (L1 _)));rw [d];rfl
     ·exact c
    ·rename_i u g;have i:(X.as tmps td .ret h).fr.kind=.normal:=u;rw [g] at d;simp only [CI,i] at d;split
     ·rename_i G;intro x H;cases H;exact .inr ⟨X.as tmps td .ret h,.one m (L1 _),d,rfl,Bg G,y,L1 _⟩
     ·exact Via.none
    ·exact c
   ·exact Via.none
  ·exact Via.none
 ·exact c
theorem El {E:Env} {a:FuncId} {ih:QSt→R3} {c:Code} {k:List AI} {tmps:T AV} {h:Aa} {X:CX}:Via E a ih (X.as tmps (.code c::k) .run h) (L4 E a ih c k tmps h X):=Via.ih (.g _) (Ch.refl (X.as tmps (.code c::k) .run h))
theorem N4 {E:Env} {d:FuncId} {ih:QSt→R3} {c:Code} {k:List AI} {tmps:T AV} {h:Aa} {X:CX}:Via E d ih (X.as tmps (.code c::k) .run h) (Zg c E d ih k tmps h X):=by
 have le:=L1 h.nx;cases c with
 |skip=>exact Via.ih (.k k tmps h X) (.one (by simp only [A8,CX.as,QSt.as]) le)
 |label l=>exact Via.ih (.k k tmps h X) (.one (by simp only [A8,CX.as,QSt.as]) le)
 |region id ops e=>
  cases e with
  |false=>exact Via.ih (.o ops.toList ops k tmps h X) (.one (by simp only [A8,CX.as,QSt.as]) le)
  |true=>exact El
 |seq a b=>exact Via.ih (.c a (.code b::k) tmps h X) (.one (by simp only [A8,CX.as,QSt.as]) le)
 |cond c x y=>
  show Via E d ih _ (XK c x y E d ih k tmps h X);unfold XK;rw [Bb];split
  ·rename_i b g;cases b with
   |true=>exact Via.ih (.c x k tmps h X) (.one (by simp only [A8,CX.as,QSt.as,g]) le)
   |false=>exact Via.ih (.c y k tmps h X) (.one (by simp only [A8,CX.as,QSt.as,g]) le)
  ·exact El
 |block id b=>exact Via.ih (.c b (.inBlock id::k) tmps h X) (.one (by simp only [A8,CX.as,QSt.as]) le)
 |loop b=>exact Via.ih (.c b (.inLoop b::k) tmps h X) (.one (by simp only [A8,CX.as,QSt.as]) le)
 |scope b=>exact Via.ih (.c b (.inScope b::k) tmps h X) (.one (by simp only [A8,CX.as,QSt.as]) le)
 |rangeFunc f n a b=>exact El
 |exit id=>
  show Via E d ih _ (Zq id E d ih k tmps h X);unfold Zq;cases i:KA id k with
  |none=>exact El
  |some j=>exact Via.ih (.k j tmps h X) (.one (by simp only [A8,CX.as,QSt.as,i]) le)
 |goto l=>exact El
 |ret=>exact R8 (fun m=>by simp only [A8,CX.as,D0,m]) El
 |refuse w=>exact Via.none
theorem kQ {E:Env} {a:FuncId} {ih:QSt→R3} {k:List AI} {tmps:T AV} {h:Aa} {X:CX}:Via E a ih (X.as tmps k .run h) (kF E a ih k tmps h X):=by
 have le:=L1 h.nx;unfold kF;split
 ·exact R8 (fun d=>by simp only [A8,CX.as,D0,d]) (Via.ih (.g _) (Ch.refl (X.as tmps [] .run h)))
 ·exact N4
 ·rename_i id k;exact Via.ih (.k k tmps h X) (.one (by simp only [A8,CX.as,QSt.as]) le)
 ·rename_i id k;exact Via.ih (.k k tmps h X) (.one (by simp only [A8,CX.as,QSt.as]) le)
 ·rename_i b k;exact Via.ih (.c b (.inLoop b::k) tmps h X) (.one (by simp only [A8,CX.as,QSt.as]) le)
 ·rename_i all l k;exact Via.ih (.o l all k tmps h X) (.refl (X.as tmps (.ops all l::k) .run h))
 ·exact Via.ih (.g _) (Ch.refl (X.as tmps k .run h))
theorem Ch.mono {E:Env} {s l:AS} (h:Ch E s l):s.h.nx≤l.h.nx:=by
 induction h with
 |refl s=>exact L1 _
 |head h r k ih=>exact l8 r ih
theorem JJ (ih:QSt→R3) (s:AS):∃st:QSt,st.as=s∧Jo ih s=ih st:=by
 obtain ⟨⟨fn,nt,tmps,todo,defers,mode,kind,round⟩,cs,h⟩:=s;cases mode with
 |run=>exact ⟨.k todo tmps h ⟨fn,nt,defers,kind,round,cs⟩,rfl,by simp only [Jo,J3,OG]⟩
 |ret=>exact ⟨.g ⟨⟨fn,nt,tmps,todo,defers,.ret,kind,round⟩,cs,h⟩,rfl,rfl⟩
 |panic ch=>exact ⟨.g ⟨⟨fn,nt,tmps,todo,defers,.panic ch,kind,round⟩,cs,h⟩,rfl,rfl⟩
theorem U8 {E:Env} {b:FuncId→Bool→QSt→R3} {d:Ask→Aa→R3} (n:Nat) (a:FuncId) (e:Bool) (st:QSt) (f:∀s,st≠.g s):Via E a (goB E b d n a e) st.as (goB E b d (n+1) a e st):=by
 cases st with
 |o l all td tmps h X=>exact W7
 |c i td tmps h X=>exact N4
 |k td tmps h X=>exact kQ
 |g s=>exact absurd rfl (f s)
theorem UY {E:Env} {b:FuncId→Bool→QSt→R3} {a:Ask→Aa→R3} (n:Nat) (c:FuncId) (d:Bool) (s:AS):goB E b a (n+1) c d (.g s)=gen E c d (goB E b a n c d) a s:=rfl
end
section
variable [U:Unk]
theorem IK {E:Env} {b:FuncId→Bool→QSt→R3} {j:Ask→Aa→R3} (l:∀a c st x,b a c st=some x→st.as.h.nx≤x.2.2.nx):∀(n:Nat) (a:FuncId) (c:Bool) (st:QSt) (x:Bool×AV×Aa),goB E b j n a c st=some x→st.as.h.nx≤x.2.2.nx
 |0,a,c,st,x,h=>l a c st x h
 |n+1,a,c,st,x,h=>by
  have d:∀s,Jo (goB E b j n a c) s=some x→s.h.nx≤x.2.2.nx:=by
   intro s q;obtain ⟨f,t,u⟩:=JJ (goB E b j n a c) s;rw [u] at q;rw [←t];exact IK l n a c f x q
  by_cases r:∃s,st=.g s
  ·obtain ⟨s,rfl⟩:=r;rw [UY] at h;unfold gen at h;show s.h.nx≤_;split at h
   ·split at h
    ·rename_i i;exact l8 (hH i) (d _ h)
    ·cases h
   ·split at h
    ·split at h
     ·rename_i i;exact l8 (hH i) (d _ h)
     ·cases h
    ·split at h
     ·rename_i i;cases h;exact hH (Au (Au i).1).1
     ·cases h
    ·rename_i y ops k m;obtain ⟨rfl,_,_⟩:=Ey m;split at h
     ·rename_i o;exact l8 (Dh _ _ _ _ _ _ _ (It o)) (d _ h)
     ·rename_i o;exact l8 (Dh _ _ _ _ _ _ _ (It o)) (d _ h)
     ·cases h
    ·split at h
     ·split at h
      ·rename_i i;exact l8 (hH i) (d _ h)
      ·cases h
     ·cases h
  ·rcases U8 n a c st (fun s e=>r ⟨s,e⟩) x h with ⟨f,p,v⟩|⟨z,p,_,_,_,_,w⟩
   ·exact l8 p.mono (IK l n a c f x v)
   ·exact l8 p.mono w
def BOK (E:Env) (b:FuncId→Bool→QSt→R3):Prop:=∀(i:FuncId) (j:Bool) (st:QSt) (e:Ren) (c:Frame) (a:List Frame) (w:World) (ok:Bool) (v:AV) (h:Aa),SR e st.as c a w→WF st.as.h→b i j st=some (ok,v,h)→AW e st.as.h.nx h.nx→
  ∀base:List Frame,∃f d k w1 g,Steps E.P (lone c (a++base) w) (lone d base w1)∧d.fn=i∧(j=false→d.roundOf=none)∧Jc E.P d w1 ok k g∧VR f v k∧HR f h.blk.get g∧Ext e f st.as.h h w g
section
variable {E:Env} (hE:OK E) (hO:Af E U.V.fn)
include hE
theorem Ch.ok {s s':AS} (k:Ch E s s') {ρ:Ren} {c:Frame} {r:List Frame} {w:World} (I:SR ρ s c r w) (l:AW ρ s.h.nx s'.h.nx) (base:List Frame) :
  ∃σ c' t w',Steps E.P (lone c (r++base) w) (lone c' (t++base) w')∧SR σ s' c' t w'∧Ext ρ σ s.h s'.h w w':=by
 induction k generalizing ρ c r w with
 |refl s=>exact ⟨ρ,c,r,w,Steps.refl _ _,I,Ext.refl _ _ _⟩
 |head h hn k ih=>
  have hm:=k.mono;obtain ⟨σ,c1,al,w1,q1,q2,q3⟩:=I2 (base:=base) hE I h (fun b h1 h2=>l b h1 (by omega))
  obtain ⟨τ,c2,J,w2,r1,r2,r3⟩:=ih q2 (q3.free l);exact ⟨τ,c2,J,w2,Steps.trans (Steps.one q1) r1,r2,q3.trans r3 l⟩
include hO
theorem Tp {b:FuncId→Bool→QSt→R3} {o:Ask→Aa→R3} (O:∀B A st x,b B A st=some x→st.as.h.nx≤x.2.2.nx) (W:BOK E b) (X:FP E o):∀(n:Nat) (B:FuncId) (A:Bool) (st:QSt) (J:Ren) (c:Frame) (r:List Frame) (w:World) (ok:Bool) (v:AV) (h:Aa),SR J st.as c r w→WF st.as.h→goB E b o n B A st=some (ok,v,h)→AW J st.as.h.nx h.nx→
  ∀base:List Frame,∃i o G w1 j,Steps E.P (lone c (r++base) w) (lone o base w1)∧o.fn=B∧(A=false→o.roundOf=none)∧Jc E.P o w1 ok G j∧VR i v G∧HR i h.blk.get j∧Ext J i st.as.h h w j:=by
 intro n
 induction n with
 |zero=>exact W
 |succ n ih=>
  intro B A st J c r w ok v h m C l a base
  have Q:∀(s t:AS) (i:Ren) (u:Frame) (d:List Frame) (w1:World),s=st.as→Steps E.P (lone c (r++base) w) (lone u (d++base) w1)→SR i t u d w1→Ext J i s.h t.h w w1→Jo (goB E b o n B A) t=some (ok,v,h)→
    ∃i o G w1 j,Steps E.P (lone c (r++base) w) (lone o base w1)∧o.fn=B∧(A=false→o.roundOf=none)∧Jc E.P o w1 ok G j∧VR i v G∧HR i h.blk.get j∧Ext J i s.h h w j:=by
   intro s t i u d w1 es H L Y h4;subst es;obtain ⟨D,Z,e2⟩:=JJ (goB E b o n B A) t;subst Z;rw [e2] at h4;obtain ⟨τ,o,G,w2,j,y,p,z,K,R,M,q7⟩:=ih B A D i u d w1 ok v h L (Y.wf C) h4 (Y.free a) base;exact ⟨τ,o,G,w2,j,Steps.trans H y,p,z,K,R,M,Y.trans q7 a⟩
  have lt:∀t,Jo (goB E b o n B A) t=some (ok,v,h)→t.h.nx≤h.nx:=by
   intro t N;obtain ⟨D,Z,e2⟩:=JJ (goB E b o n B A) t;rw [e2] at N;rw [←Z];exact IK O n B A D _ N
  have done:∀(s:AS) (i:Ren) (u:Frame) (d:List Frame) (w1:World) (ok:Bool) (v:AV) (h:Aa),A8 E s=.done ok v h→SR i s u d w1→s.fr.fn=B→(A=true∨s.fr.round=none)→
    d=[]∧∃G j,u.fn=B∧(A=false→u.roundOf=none)∧Jc E.P u w1 ok G j∧VR i v G∧HR i h.blk.get j∧Ext i i s.h h w1 j:=by
   intro s i u d w1 ok v h F N aa ab;obtain ⟨e,x,j,y,p,z,K⟩:=Ip hE N F;refine ⟨e,x,j,N.fr.fn.trans aa,fun ac=>?_,K,y,p,z⟩
   rcases ab with q|q
   ·rw [ac] at q;cases q
   ·have:=N.fr.round;rw [q] at this;exact this.none_inv
  by_cases hg:∃s,st=.g s
  ·obtain ⟨s,rfl⟩:=hg;rw [UY] at l;unfold gen at l;have m:SR J s c r w:=m;have C:WF s.h:=C;have a:AW J s.h.nx h.nx:=a;split at l
   ·rename_i t S;split at l
    ·have f:=lt t l;obtain ⟨i,I,d,j,y,p,z⟩:=QD hE hO m C S (fun b H L=>a b H (by omega)) base
     exact Q s t i I d j rfl y p z l
    ·cases l
   ·split at l
    ·rename_i t F;split at l
     ·have f:=lt t l;obtain ⟨i,I,d,j,y,p,z⟩:=I2 (base:=base) hE m F (fun b H L=>a b H (by omega))
      exact Q s t i I d j rfl (Steps.one y) p z l
     ·cases l
    ·rename_i ad G h' F;split at l
     ·rename_i W;simp only [C2,hS] at l;obtain ⟨rfl,rfl,rfl⟩:=l;obtain ⟨b1,b2⟩:=Au W
      obtain ⟨rfl,x,j,y,p,z,K,R,M⟩:=done s J c r w _ _ _ F m (Ay (Au b1).2) (by
       cases A with
       |true=>exact .inl rfl
       |false=>simp only [Bool.false_or,Option.isNone_iff_eq_none] at b2;exact .inr b2)
      exact ⟨J,c,x,w,j,Steps.refl _ _,y,p,z,K,R,M⟩
     ·cases l
    ·rename_i s2 ops k F;obtain ⟨rfl,O,id,ht⟩:=Ey F;split at l
     ·rename_i tmps H hd;have f:=lt _ l;obtain ⟨i,u,j,y,p,z⟩:=Hr hE X m C O ht (It hd) (fun b a1 a2=>a b a1 (Nat.lt_of_lt_of_le a2 f)) base
      exact Q _ _ i u r j rfl y p z l
     ·rename_i v1 tmps H hd;have f:=lt _ l;obtain ⟨i,u,j,y,p,z⟩:=Hr hE X m C O ht (It hd) (fun b a1 a2=>a b a1 (Nat.lt_of_lt_of_le a2 f)) base
      exact Q _ _ i u r j rfl y p z l
     ·cases l
    ·split at l
     ·rename_i t hl;split at l
      ·have f:=lt t l;obtain ⟨i,I,d,j,y,p,z⟩:=Sa hE hO X m C hl (fun b H L=>a b H (by omega)) base
       exact Q s t i I d j rfl y p z l
      ·cases l
     ·cases l
  ·rcases U8 n B A st (fun s e=>hg ⟨s,e⟩) _ l with ⟨D,y,p⟩|⟨s1,y,p,z,K,R,M⟩
   ·have f:=IK O n B A D _ p;obtain ⟨i,u,d,w1,r1,r2,T⟩:=y.ok hE m (fun b H L=>a b H (by have:D.as.h.nx≤h.nx:=f;omega)) base
    obtain ⟨τ,o,G,w2,j,t1,t2,t3,t4,t5,t6,t7⟩:=ih B A D i u d w1 ok v h r2 (T.wf C) p (T.free a) base;exact ⟨τ,o,G,w2,j,Steps.trans r1 t1,t2,t3,t4,t5,t6,T.trans t7 a⟩
   ·have z:ok=true:=z;subst z;have M:s1.h.nx≤h.nx:=M;obtain ⟨i,u,d,w1,r1,r2,T⟩:=y.ok hE m (fun b H L=>a b H (by omega)) base
    obtain ⟨rfl,x,j,t1,t2,t3,t4,t5,t6⟩:=done s1 i u d w1 _ _ _ p r2 K (.inr R);exact ⟨i,u,x,w1,j,r1,t1,t2,t3,t4,t5,T.trans t6 a⟩
theorem X5:∀L,FP E (cfN E L):=by
 intro L
 induction L with
 |zero=>exact ⟨fun _ _ _ _ _ _ _ _ _ _ _ _ h=>(by cases h),fun _ _ _ _ _ _ _ _ _ _ h=>(by cases h)⟩
 |succ L ih=>
  have u:∀(fr:AF) (g e:Aa) (ok:Bool) (v:AV) (f:Ren) (j:Frame) (w:World),FrR f fr j→HR f g.blk.get w→WF g→Jo (goB E noB (cfN E L) 1000000 fr.fn true) {fr,cs:=[],h:=g}=some (ok,v,e)→AW f g.nx e.nx→
    ∀(c0:Frame) (base:List Frame),∃m o n,BK E.P (lone j (c0::base) w) c0 base ok o n∧VR m v o∧HR m e.blk.get n∧Ext f m g e w n:=by
   intro fr g e ok v f j w d k c b a c0 base;obtain ⟨q,p,z⟩:=JJ (goB E noB (cfN E L) 1000000 fr.fn true) {fr,cs:=[],h:=g};rw [z] at b;obtain ⟨m,A,o,w1,n,B,G,H,C,D,F,x⟩:=Tp hE hO (fun _ _ _ _ h=>by cases h) (fun _ _ _ _ _ _ _ _ _ _ _ _ h=>by cases h) ih 1000000 fr.fn true q f j [] w ok v e (by rw [p];exact ⟨d,.nil,k⟩) (by rw [p];exact c) b (by rw [p];exact a) (c0::base)
   rw [p] at x;refine ⟨m,o,n,?_,D,F,x⟩;have:=Steps.trans B (Steps.one (C.back c0 base));cases ok<;>exact this
  show FP E (UV E (goB E noB (cfN E L) 1000000));refine ⟨?_,?_⟩
  ·intro I args s g e ok v f w y k c b a;simp only [UV] at b;split at b
   ·rename_i r i;cases b;exact Ez hE hO i y k c a
   ·split at b
    ·rename_i fr d;exact u fr g e ok v f _ w (B7 hE d y) k c b a
    ·cases b
  ·intro l args g e ok v f w k c b a;simp only [UV] at b;split at b
   ·rename_i fr d;exact ⟨fr,d,fun j t=>u fr g e ok v f j w t k c b a⟩
   ·cases b
end
end
theorem Orc.validB {E:Env} (hE:∀[U:Unk],U.K=(Env.of E.P).kinds→OK E) {G:Nat→D→D} (hO:Af E G) {b:[Facts]→FuncId→Bool→QSt→R3} (hm:∀[F:Facts] f0 rd st x,b f0 rd st=some x→st.as.h.nx≤x.2.2.nx) (hb:∀[U:Unk],U.K=(Env.of E.P).kinds→U.V.fn=G→BOK E b) {N:Nat} {e:Orc} (h:∀[F:Facts],HS E b N e=true):e.Valid E.P G:=by
 intro U hK hG ρ w J ha hr al r c0 base;have hE:=hE hK;have an:=hb hK hG;subst hG;have t:=h (F:=U.toFacts);unfold HS at t;split at t
 ·rename_i ok v g l;simp only [IqQ,beq_iff_eq] at t;obtain ⟨⟨⟨⟨h1,h2⟩,h3⟩,h4⟩,h5⟩:=t;have e4:=Mj h4;unfold Xy at l;split at l
  ·rename_i fr ar;obtain ⟨av,I,s2⟩:=JJ (goB E b (cfN E 40) N e.f false) {fr,cs:=[],h:={blk:=e.part,nx:=e.nx,log:=[]}};rw [s2] at l;obtain ⟨σ,cf,v',w1,w',q1,q2,q3,q4,q5,q6,q7⟩:=Tp hE hO hm an (X5 hE hO 40) N e.f false av ρ _ [] w ok v g (by rw [I];exact ⟨B7 hE ar ha,.nil,hr⟩) (by rw [I];exact al) l (by rw [I];show AW ρ e.nx g.nx;rw [e4];exact r) (c0::base)
   rw [I] at q7;refine ⟨σ,v',w',g,?_,Ee _ _ h2▸q5,q6,q7,Di h3,e4,LG h5⟩;rw [←h1];have:=Steps.trans q1 (Steps.one (q4.back c0 base));cases ok<;>exact this
  ·cases l
 ·cases t
theorem Orc.validG {E:Env} (hE:∀[U:Unk],U.K=(Env.of E.P).kinds→OK E) {G:Nat→D→D} (hO:Af E G) {N:Nat} {e:Orc} (h:∀[F:Facts],Dt E N e=true):e.Valid E.P G:=
 Orc.validB hE hO (b:=noB) (fun _ _ _ _ h=>by cases h) (fun _ _ _ _ _ _ _ _ _ _ _ _ _ _ h=>by cases h) h
end Go.AE
namespace Go.AE
variable [Gl:AJ]
variable [U:Unk]
def WP (x:Func):Bool:=!(x.name == "runtime.NumGoroutine")&&(x.body.isSome||(!(x.name == "maps.clone") && !(x.name == "internal/bytealg.IndexByteString") && !(x.name == "internal/bytealg.CountString"))||(Extern.allNextRows.lookup x.origin).isNone)
theorem V5:Extern.allNextRows.lookup "maps.clone" = none:=by kernel_rfl
theorem Xf:Extern.allGenericRows.lookup "maps.clone" = none:=by kernel_rfl
theorem Tq:Extern.allTypedRows.lookup "maps.clone" = none:=by kernel_rfl
theorem Zs:Extern.allRows.lookup "maps.clone" = some Extern.MapsClone.clone:=by kernel_rfl
theorem cz:Extern.allNextRows.lookup "internal/bytealg.IndexByteString" = none:=by kernel_rfl
theorem jm:Extern.allGenericRows.lookup "internal/bytealg.IndexByteString" = none:=by kernel_rfl
theorem Yw:Extern.allTypedRows.lookup "internal/bytealg.IndexByteString" = none:=by kernel_rfl
theorem kh:Extern.allRows.lookup "internal/bytealg.IndexByteString" = some Extern.BytealgIndexByte.indexByte:=by kernel_rfl
theorem eh:Extern.allNextRows.lookup "internal/bytealg.CountString" = none:=by kernel_rfl
theorem kD:Extern.allGenericRows.lookup "internal/bytealg.CountString" = none:=by kernel_rfl
theorem aw:Extern.allTypedRows.lookup "internal/bytealg.CountString" = none:=by kernel_rfl
theorem iu:Extern.allRows.lookup "internal/bytealg.CountString" = some Extern.BytealgCount.count:=by kernel_rfl
omit U in
theorem E9 {x:Func} {n:String} (hn:x.name=n) (h1:Extern.allNextRows.lookup n=none) (h2:Extern.allNextRows.lookup x.origin=none):Extern.findNext x=none:=by
 show ((Extern.allNextRows.lookup x.name).map (· x.params x.resultTypes) <|> (Extern.allNextRows.lookup x.origin).map (· x.params x.resultTypes))=none
 rw [hn,h1,h2];rfl
omit U in
theorem J7 {x:Func} {n:String} {g:Array Value→Sem Value} (hn:x.name=n) (h1:Extern.allGenericRows.lookup n=none) (h2:Extern.allTypedRows.lookup n=none) (h3:Extern.allRows.lookup n=some g):Extern.find x=some g:=by
 show (((Extern.allGenericRows.lookup x.name).map (· x.targs x.params x.resultTypes) <|> (Extern.allTypedRows.lookup x.name).map (· x.params x.resultTypes) <|> Extern.allRows.lookup x.name) <|> ((Extern.allGenericRows.lookup x.origin).map (· x.targs x.params x.resultTypes) <|> (Extern.allTypedRows.lookup x.origin).map (· x.params x.resultTypes) <|> Extern.allRows.lookup x.origin))=some g
 rw [hn,h1,h2,h3];rfl
omit U in
theorem IV:∀(l:List Orc) (f:Nat) (x:List Orc),(WV l).get f=some x→∀e∈x,e∈l
 |[],f,x,h=>by rw [WV,T.get_nil] at h;cases h
 |a::l,f,x,h=>by
  unfold WV eQ at h;intro e he;cases hq:(WV l).get a.f with
  |none=>
   rw [hq] at h;simp only [T.get_set] at h;split at h
   ·cases h;simp only [vy] at he;subst he;exact zC
   ·exact zE _ (IV l f x h e he)
  |some y=>
   rw [hq] at h;simp only [T.get_set] at h;split at h
   ·cases h;rcases hP.1 he with q|q
    ·rw [q];exact zC
    ·exact zE _ (IV l a.f y hq e q)
   ·exact zE _ (IV l f x h e he)
theorem OK.of {P:Program} {l:List Orc} {m:List Sm} (hm:P.follows .mixedOrders=true) (hc:P.funcs.toList.all WP=true) (hk:U.K=(Env.of P).kinds):OK (Env.ofS P l m):=by
 have I:∀f x,(Env.ofS P l m).fn.get f=some x→P.funcs[f]?=some x:=by
  intro f x h;rw [Env.ofS,T.get_ofList] at h;simpa using h
 have r:∀f x,(Env.ofS P l m).fn.get f=some x→WP x=true:=by
  intro f x h;have:=I f x h
  exact List.all_eq_true.1 hc x (by
   have h2:P.funcs.toList[f]?=some x:=by simpa using this
   exact pc h2)
 refine ⟨fun t i h=>?_,I,fun f x h=>?_,fun f x h J hn=>?_,fun f x h J hn=>?_,fun f x h J hn=>?_,hm,hk,rfl,rfl,fun f x h=>IV l f x h⟩
 ·rw [Env.ofS,T.get_ofList] at h;have h2:P.types[t]?=some i:=by simpa using h
  have al:t<P.types.size:=(Array.getElem?_eq_some_iff.1 h2).1;show P.info? t=some i;simp only [Tables.info?,if_pos al];exact h2
 ·have:=r f x h;simp only [WP,IqQ,zA] at this;exact this.1
 ·have q:=r f x h;have ho:Extern.allNextRows.lookup x.origin=none:=by simpa [WP,J,hn] using q
  exact ⟨E9 hn V5 ho,J7 hn Xf Tq Zs⟩
 ·have q:=r f x h;have ho:Extern.allNextRows.lookup x.origin=none:=by simpa [WP,J,hn] using q
  exact ⟨E9 hn cz ho,J7 hn jm Yw kh⟩
 ·have q:=r f x h;have ho:Extern.allNextRows.lookup x.origin=none:=by simpa [WP,J,hn] using q
  exact ⟨E9 hn eh ho,J7 hn kD aw iu⟩
theorem Af.none {P:Program} {F:Nat→D→D}:Af (Env.ofO P []) F:=⟨fun e he=>(by cases he),fun e he=>(by cases he)⟩
theorem Af.add {P:Program} {l:List Orc} {m:List Sm} {e:Orc} {N:Nat} (hE:∀[U:Unk],U.K=(Env.of P).kinds→OK (Env.ofS P l m)) {G:Nat→D→D} (hO:Af (Env.ofS P l m) G) (h:∀[F:Facts],T3 (Env.ofS P l m) N e=true):Af (Env.ofS P (e::l) m) G:=by
 refine ⟨fun x r=>?_,hO.sms⟩
 rcases hP.1 r with rfl|r
 ·exact Orc.valid (E:=Env.ofS P l m) hE hO h
 ·exact hO.orc x r
theorem Af.cons {P:Program} {l:List Orc} {m:List Sm} {e:Orc} {G:Nat→D→D} (h:e.Valid P G) (hO:Af (Env.ofS P l m) G):Af (Env.ofS P (e::l) m) G:=
 ⟨fun x r=>(hP.1 r).elim (fun q=>q▸h) (fun q=>hO.orc x q),hO.sms⟩
theorem Af.val {P:Program} {l:List Orc} {e:Orc} {N:Nat} (hE:∀[U:Unk],U.K=(Env.of P).kinds→OK (Env.ofS P l [])) {G:Nat→D→D} (hO:Af (Env.ofS P l []) G) (h:∀[F:Facts],Dt (Env.ofS P l []) N e=true):e.Valid P G:=
 Orc.validG (E:=Env.ofS P l []) hE hO h
end Go.AE
namespace Go.AE
variable [Gl:AJ]
abbrev iN (n:Nat):AV:=.int .i64 (.ofNat n)
abbrev pN (b:Nat):AV:=.ptr b 0
abbrev ceL (n:Nat) (a:List (List AV)):Ak:=.cells n (T.ofList a.flatten)
structure Cor where
 f:FuncId
 nt:Nat
 td:List AI
 tmps:T AV
 part:T Ak
 nx:Nat
 ok:Bool
 v:AV
 out:T Ak
 nx':Nat
 wr:List Nat
def Cor.heap (K:Cor):Aa:={blk:=K.part,nx:=K.nx,log:=[]}
def Cor.cx (K:Cor):CX:=⟨K.f,K.nt,[],.normal,none,[]⟩
def Cor.st (K:Cor):QSt:=.k K.td.tail K.tmps K.heap K.cx
def bU:List AI→List AI→Bool
 |[],[]=>true
 |a::r,b::s=>gO a b&&bU r s
 |_,_=>false
def TP (K:Cor) (X:CX):Bool:=Nat.beq X.fn K.f&&Nat.beq X.nt K.nt&&X.defers.isEmpty&&X.round.isNone&&X.cs.isEmpty&&(match X.kind with|.normal=>true|_=>false)
def Cor.base (K:Cor):FuncId→Bool→QSt→R3:=fun f l st=>match st with
 |.k td tmps h X=>match !l&&Nat.beq f K.f&&TP K X&&Nat.beq h.nx K.nx&&Nat.ble K.nx K.nx'&&bU td K.td.tail&&Ku K.tmps tmps&&NJ K.part h.blk with
  |true=>some (K.ok,K.v,AX h {blk:=K.out,nx:=K.nx',log:=K.wr})
  |false=>none
 |_=>none
section
variable [U:Facts]
def Ij (E:Env) (b:FuncId→Bool→QSt→R3) (N:Nat) (K:Cor):Bool:=
 match goB E b (cfN E 40) N K.f false K.st with
 |some (ok,v,g)=>(ok==K.ok)&&By v K.v&&NJ K.out g.blk&&Nat.beq g.nx K.nx'&&WC K.nx K.wr g.log
 |none=>false
end
def Cor.Valid (P:Program) (F:Nat→D→D) (K:Cor):Prop:=
 ∀[U:Unk],U.K=(Env.of P).kinds→U.V.fn=F→∀(r:Ren) (c:Frame) (w:World),SR r K.st.as c [] w→WF K.heap→AW r K.nx K.nx'→
  ∀base:List Frame,∃t l J w1 I g,Steps P (lone c base w) (lone l base w1)∧l.fn=K.f∧l.roundOf=none∧Jc P l w1 K.ok J I∧VR t K.v J∧HR t g.blk.get I∧
   Ext r t K.heap g w I∧(∀b x,K.out.get b=some x→g.blk.get b=some x)∧g.nx=K.nx'∧(∀b∈g.log,b<K.nx→b∈K.wr)
theorem Vm:∀{a b:List AI},bU a b=true→a=b
 |[],[],_=>rfl
 |a::r,b::s,h=>by
  simp only [bU,IqQ] at h;rw [di h.1,Vm h.2]
 |[],_::_,h=>by cases h
 |_::_,[],h=>by cases h
theorem WG {K:Cor} {X:CX} (h:TP K X=true):X=K.cx:=by
 unfold TP at h;simp only [IqQ] at h;obtain ⟨⟨⟨⟨⟨b,c⟩,d⟩,e⟩,g⟩,a⟩:=h;obtain ⟨fn,nt,i,kind,round,cs⟩:=X;have j:fn=K.f:=Mj b;have k:nt=K.nt:=Mj c;have l:i=[]:=by simpa using d
 have m:round=none:=by simpa using e
 have n:cs=[]:=by simpa using g
 have o:kind=.normal:=by
  simp only at a;split at a
  ·rfl
  ·cases a
 subst j k l m n o;rfl
theorem Cor.base_mono (K:Cor):∀l r st x,K.base l r st=some x→st.as.h.nx≤x.2.2.nx:=by
 intro l r st x h;unfold Cor.base at h;split at h
 ·rename_i td tmps I X;split at h
  ·rename_i t;cases h;simp only [IqQ] at t;obtain ⟨⟨⟨⟨⟨_,J⟩,h5⟩,_⟩,_⟩,_⟩:=t;have e4:=Mj J;have e5:=hH h5;show I.nx≤K.nx';omega
  ·cases h
 ·cases h
theorem Cor.base_ok {E:Env} {K:Cor} {F:Nat→D→D} (hv:K.Valid E.P F) [U:Unk] (hK:U.K=(Env.of E.P).kinds) (hF:U.V.fn=F):BOK E K.base:=by
 intro f0 rd st ρ c al w ok v h I t r J base;unfold Cor.base at r;split at r
 ·rename_i td tmps hh X;split at r
  ·rename_i hb;cases r;simp only [IqQ,zA] at hb;obtain ⟨⟨⟨⟨⟨⟨⟨h1,h2⟩,h3⟩,h4⟩,h5⟩,h6⟩,h7⟩,h8⟩:=hb;have e2:f0=K.f:=Mj h2;have e3:=WG h3;have e4:hh.nx=K.nx:=Mj h4;have e6:=Vm h6;subst e3 e6
   have an:al=[]:=by
    have:=I.cs;generalize hq:((QSt.k K.td tmps hh K.cx).as).cs=q at this;have hq:[]=q:=hq;subst hq;cases this;rfl
   subst an;have t:WF hh:=t
   have ar:FrR ρ K.st.as.fr c:=by
    have q:=I.fr;exact ⟨q.fn,⟨q.tm.size,fun i x r=>q.tm.get i x (GY h7 i x r)⟩,q.todo,q.defers,q.mode,q.kind,q.round⟩
   have hr:HR ρ hh.blk.get w:=I.h
   have av:WF K.heap:=fun b hb=>by
    show K.part.get b=none;cases hp:K.part.get b with
    |none=>rfl
    |some x=>
     have q:=Di h8 b x hp;rw [t b (by rw [e4];exact hb)] at q
     cases q
   have l:AW ρ hh.nx K.nx':=J;obtain ⟨σ,cf,v',w1,w',g,q1,q2,q3,q4,q5,q6,q7,q8,q9,bd⟩:=hv hK hF ρ c w ⟨ar,.nil,hr.weaken (fun b x _ r=>Di h8 b x r)⟩ av (by rw [←e4];exact l) base
   have q7:Ext ρ σ {blk:=K.part,nx:=hh.nx,log:=[]} g w w':=by rw [e4];exact q7
   obtain ⟨m1,m2⟩:=MD hr t (Di h8) l q6 q7 q8 q9 (by rw [e4];exact bd)
   exact ⟨σ,cf,v',w1,w',q1,q2.trans e2.symm,fun _=>q3,q4,q5,m1,m2⟩
  ·cases r
 ·cases r
theorem Cor.valid {P:Program} {l:List Orc} {K:Cor} {N:Nat} {G:Nat→D→D} {b:FuncId→Bool→QSt→R3} (hE:∀[U:Unk],U.K=(Env.of P).kinds→OK (Env.ofS P l [])) (hO:Af (Env.ofS P l []) G)
  (hm:∀f0 rd st x,b f0 rd st=some x→st.as.h.nx≤x.2.2.nx) (hb:∀[U:Unk],U.K=(Env.of P).kinds→U.V.fn=G→BOK (Env.ofS P l []) b) (h:∀[F:Facts],Ij (Env.ofS P l []) b N K=true):K.Valid P G:=by
 intro U hK hG ρ c w J al r base;have hE:=hE hK;have an:=hb hK hG;subst hG;have I:=h (F:=U.toFacts);unfold Ij at I;split at I
 ·rename_i ok v g t;simp only [IqQ,beq_iff_eq] at I;obtain ⟨⟨⟨⟨h1,h2⟩,h3⟩,h4⟩,h5⟩:=I;have e4:=Mj h4;obtain ⟨σ,cf,v',w1,w',q1,q2,q3,q4,q5,q6,q7⟩:=Tp hE hO hm an (X5 hE hO 40) N K.f false K.st ρ c [] w ok v g J al t (by show AW ρ K.nx g.nx;rw [e4];exact r) base
  exact ⟨σ,cf,v',w1,w',g,q1,q2,q3 rfl,h1▸q4,Ee _ _ h2▸q5,q6,q7,Di h3,e4,LG h5⟩
 ·cases I
theorem Cor.last {P:Program} {l:List Orc} {K:Cor} {N:Nat} {G:Nat→D→D} (hE:∀[U:Unk],U.K=(Env.of P).kinds→OK (Env.ofS P l [])) (hO:Af (Env.ofS P l []) G) (h:∀[F:Facts],Ij (Env.ofS P l []) noB N K=true):K.Valid P G:=
 Cor.valid hE hO (b:=noB) (fun _ _ _ _ h=>by cases h) (fun _ _ _ _ _ _ _ _ _ _ _ _ _ _ h=>by cases h) h
theorem Cor.next {P:Program} {l:List Orc} {K r:Cor} {N:Nat} {G:Nat→D→D} (hE:∀[U:Unk],U.K=(Env.of P).kinds→OK (Env.ofS P l [])) (hO:Af (Env.ofS P l []) G) (hv:r.Valid P G) (h:∀[F:Facts],Ij (Env.ofS P l []) r.base N K=true):K.Valid P G:=
 Cor.valid hE hO r.base_mono (fun hK t=>Cor.base_ok (E:=Env.ofS P l []) hv hK t) h
theorem Orc.first {P:Program} {l:List Orc} {e:Orc} {r:Cor} {N:Nat} {G:Nat→D→D} (hE:∀[U:Unk],U.K=(Env.of P).kinds→OK (Env.ofS P l [])) (hO:Af (Env.ofS P l []) G) (hv:r.Valid P G) (h:∀[F:Facts],HS (Env.ofS P l []) r.base N e=true):e.Valid P G:=
 Orc.validB (E:=Env.ofS P l []) hE hO r.base_mono (fun hK t=>Cor.base_ok (E:=Env.ofS P l []) hv hK t) h
end Go.AE
namespace Go.AE
variable [Gl:AJ]
open Go.RowKit
def cR [Facts] (j:Nat):Kd→AV
 |.int k=>mkI k (.var j)
 |.bool=>mkB true (.var j)
 |.str=>.ss (.var j)
 |.slice e=>.dat e (.var j)
def JC [Facts]:Nat→List Kd→List AV
 |_,[]=>[]
 |j,k::ks=>cR j k::JC (j+1) ks
def J5:TypeDesc→Bool
 |.struct _=>true
 |_=>false
def Ge [Facts] (E:Env):Nat→List TypeId→Option (List AV)
 |_,[]=>some []
 |j,t::ts=>match E.desc t,E.kinds0 t with
  |some d,some ks=>match Ge E (j+ks.length) ts with
   |some r=>match J5 d with
    |true=>some (.agg (JC j ks)::r)
    |false=>match JC j ks with
     |[a]=>some (a::r)
     |_=>none
   |none=>none
  |_,_=>none
def Br (E:Env):List TypeId→Option (List Kd)
 |[]=>some []
 |t::ts=>match E.kinds0 t,Br E ts with
  |some ks,some l=>some (ks++l)
  |_,_=>none
def Cj:Nat→List Kd→List (SB×Bool)
 |_,[]=>[]
 |j,.int k::r=>match decide (k=.i64) with
  |true=>Cj (j+1) r
  |false=>(.lss (.var j) (.c k.min),false)::(.lss (.c k.max) (.var j),false)::Cj (j+1) r
 |j,_::r=>Cj (j+1) r
def inL (e:TypeId):List TypeId→Bool
 |[]=>false
 |f::r=>Nat.beq e f||inL e r
def Rv (L:List TypeId):Kd→Bool
 |.slice e=>inL e L
 |_=>true
def Hp (E:Env) (L:List TypeId):List TypeId→Bool
 |[]=>true
 |e::r=>match E.kinds0 e with
  |some ks=>!ks.isEmpty&&ks.all (Rv L)&&Hp E L r
  |none=>false
inductive DT where
 |leaf
 |split (e:SB) (t f:DT)
def Dn (fn:Nat→D→D) (a:List D):Val:={d:=fun j=>a.getD j default,fn}
@[reducible] def Xj (P:Program):Unk:={facts:=[],V:=Dn (fun _ d=>d) [],K:=(Env.of P).kinds,R:=[],hR:=fun _ _ _ _ _ h=>by (cases h),ok:=by simp}
def DVL (K:TypeId→Option (List Kd)) (M:Nat→Option (Array Value)):List Kd→List Value→List D→Prop
 |[],[],[]=>True
 |k::ks,v::a,d::b=>DV K M k v d∧DVL K M ks a b
 |_,_,_=>False
theorem DVL.len {K:TypeId→Option (List Kd)} {M:Nat→Option (Array Value)}:∀{ks:List Kd} {l:List Value} {r:List D},DVL K M ks l r→ks.length=l.length∧ks.length=r.length
 |[],[],[],_=>⟨rfl,rfl⟩
 |_::_,_::_,_::_,h=>by have:=DVL.len h.2;simp [this.1.symm,this.2.symm]
def Can:List Kd→List D→Prop
 |.int _::ks,d::a=>(∃n,d=.int n)∧Can ks a
 |.bool::ks,d::a=>(∃n,d=.bool n)∧Can ks a
 |.str::ks,d::a=>(∃n,d=.str n)∧Can ks a
 |.slice _::ks,_::a=>Can ks a
 |_,_=>True
def Fc (K:TypeId→Option (List Kd)):Nat→Kd→D→Prop
 |_,.int _,d=>∃n,d=.int n
 |_,.bool,d=>∃b,d=.bool b
 |_,.str,d=>∃s,d=.str s
 |0,.slice _,_=>True
 |m+1,.slice e,d=>∃nl rows,d=.slc nl rows∧(nl=true→rows=[])∧∀ks,K e=some ks→∀r∈rows,∃cs,r=.row cs∧cs.length=ks.length∧∀(j:Nat) kd,ks[j]?=some kd→Fc K m kd (cs.getD j default)
def Py (K:TypeId→Option (List Kd)) (m:Nat) (ks:List Kd) (a:List D):Prop:=∀(j:Nat) kd,ks[j]?=some kd→Fc K m kd (a.getD j default)
def leB (o:Option Nat) (n:Nat):Prop:=∀b,o=some b→n≤b
def ShK (K:TypeId→Option (List Kd)) (o:Option Nat):Nat→Kd→D→Prop
 |_,.int _,_=>True
 |_,.bool,_=>True
 |_,.str,d=>leB o d.toStr.data.toList.length
 |0,.slice _,_=>True
 |m+1,.slice e,d=>leB o d.rows.length∧∀ks,K e=some ks→∀i,i<d.rows.length→∀(j:Nat) kd,ks[j]?=some kd→ShK K o m kd ((d.rows.getD i default).cells.getD j default)
def ShL (K:TypeId→Option (List Kd)) (o:Option Nat) (m:Nat) (ks:List Kd) (a:List D):Prop:=∀(j:Nat) kd,ks[j]?=some kd→ShK K o m kd (a.getD j default)
mutual
def Bq {H:Type} (o:Option Nat):DataW H→Prop
 |.lit (.string bytes)=>leB o bytes.length
 |.lit _=>True
 |.nil=>True
 |.ptr _=>True
 |.slice a _=>leB o a.length∧BG o a
 |.agg parts=>BG o parts
 |.iface _ _=>True
 |.map _=>True
 |.held _=>True
def BG {H:Type} (o:Option Nat):List (DataW H)→Prop
 |[]=>True
 |d::r=>Bq o d∧BG o r
end
mutual
theorem Bq.none {H:Type}:∀d:DataW H,Bq none d
 |.lit (.string _)=>by rw [Bq];intro b I;cases I
 |.lit (.bool _)=>by simp [Bq]
 |.lit (.int _ _)=>by simp [Bq]
 |.lit (.float _ _)=>by simp [Bq]
 |.lit .nil=>by simp [Bq]
 |.nil=>by simp [Bq]
 |.ptr _=>by simp [Bq]
 |.slice t _=>by rw [Bq];exact ⟨fun b I=>(by cases I),BG.none t⟩
 |.agg parts=>by rw [Bq];exact BG.none parts
 |.iface _ _=>by simp [Bq]
 |.map _=>by simp [Bq]
 |.held _=>by simp [Bq]
theorem BG.none {H:Type}:∀l:List (DataW H),BG none l
 |[]=>by simp [BG]
 |d::r=>by rw [BG];exact ⟨Bq.none d,BG.none r⟩
end
theorem BG.get {H:Type} {o:Option Nat}:∀{l:List (DataW H)} {i:Nat} {d:DataW H},BG o l→l[i]?=some d→Bq o d
 |x::l,0,d,h,hi=>by
  simp only [Nf,C2] at hi;subst hi;rw [BG] at h;exact h.1
 |x::l,i+1,d,h,hi=>by
  rw [BG] at h;exact h.2.get (by simpa using hi)
 |[],i,d,h,hi=>by simp at hi
theorem DV.canK {K:TypeId→Option (List Kd)} {M:Nat→Option (Array Value)} {o:Option Nat}:∀(m:Nat) (kd:Kd) (v:Value) (d:D),DV K M kd v d→∃d',DV K M kd v d'∧Fc K m kd d'∧(ShK K o m kd d→ShK K o m kd d')
 |m,.int k,v,d,h=>by
  cases h with
  |int _ n _ I q=>exact ⟨.int n,.int k n _ I rfl,by cases m<;>exact ⟨n,rfl⟩,fun _=>by cases m<;>trivial⟩
 |m,.bool,v,d,h=>by
  cases h with
  |bool b _ q=>exact ⟨.bool b,.bool b _ rfl,by cases m<;>exact ⟨b,rfl⟩,fun _=>by cases m<;>trivial⟩
 |m,.str,v,d,h=>by
  cases h with
  |str b _ q=>exact ⟨.str b,.str b _ rfl,by cases m<;>exact ⟨b,rfl⟩,fun hs=>by cases m<;>(simp only [ShK] at hs ⊢;rw [q] at hs;exact hs)⟩
 |0,.slice e,v,d,h=>⟨d,h,trivial,fun h=>h⟩
 |m+1,.slice e,v,d,h=>by
  cases h with
  |nil _ _ h1 h2=>exact ⟨.slc true [],.nil e _ rfl rfl,⟨true,[],rfl,fun _=>rfl,fun _ _ r I=>by cases I⟩,fun _=>⟨fun b _=>zz b,fun ks _ i hi=>absurd hi (gk i)⟩⟩
  |empty _ a J _ h1 h2=>exact ⟨.slc false [],.empty e a J _ rfl rfl,⟨false,[],rfl,fun _=>rfl,fun _ _ r I=>by cases I⟩,fun _=>⟨fun b _=>zz b,fun ks _ i hi=>absurd hi (gk i)⟩⟩
  |slc _ b off n J _ ks arr hk ha hn hc h1 ar be hv=>
   classical
   have key:∀i j,∃x,∀kd,i<n→ks[j]?=some kd→DV K M kd (arr.getD (off+i*ks.length+j) Go.undef) x∧Fc K m kd x∧(ShK K o m kd ((d.rows.getD i default).cells.getD j default)→ShK K o m kd x):=by
    intro i j;cases hj:ks[j]? with
    |none=>exact ⟨default,fun kd _ h=>by cases h⟩
    |some kd=>
     by_cases hi:i<n
     ·obtain ⟨x,q1,q2⟩:=DV.canK m kd _ _ (hv i j kd hi hj);exact ⟨x,fun bm _ h=>by cases h;exact ⟨q1,q2⟩⟩
     ·exact ⟨default,fun kd _ h=>absurd ‹i<n› hi⟩
   let f:Nat→Nat→D:=fun i j=>Classical.choose (key i j)
   have hf:∀i j kd,i<n→ks[j]?=some kd→DV K M kd (arr.getD (off+i*ks.length+j) Go.undef) (f i j)∧Fc K m kd (f i j)∧(ShK K o m kd ((d.rows.getD i default).cells.getD j default)→ShK K o m kd (f i j)):=fun i j=>Classical.choose_spec (key i j)
   have I:∀i,i<n→((List.range n).map fun i=>D.row ((List.range ks.length).map (f i))).getD i default=.row ((List.range ks.length).map (f i)):=by
    intro i hi;simp [Id,hi]
   have l:∀i j,j<ks.length→((List.range ks.length).map (f i)).getD j default=f i j:=by
    intro i j hj;simp [Id,hj]
   have al:∀{j:Nat} {kd:Kd},ks[j]?=some kd→j<ks.length:=fun h=>(LT.1 h).1
   refine ⟨.slc false ((List.range n).map fun i=>.row ((List.range ks.length).map (f i))),.slc e b off n J _ ks arr hk ha (by show (List.map _ _).length=n;simp) hc rfl ar (fun i hi=>?_) (fun i j kd hi hj=>?_),⟨false,_,rfl,(fun h=>by cases h),fun av t r bd=>?_⟩,fun hs=>⟨?_,fun av t i hi j kd hj=>?_⟩⟩
   ·show (((List.range n).map fun i=>D.row ((List.range ks.length).map (f i))).getD i default).cells.length=_
    rw [I i hi];simp [D.cells]
   ·show DV K M kd _ ((((List.range n).map fun i=>D.row ((List.range ks.length).map (f i))).getD i default).cells.getD j default)
    rw [I i hi];show DV K M kd _ (((List.range ks.length).map (f i)).getD j default);rw [l i j (al hj)];exact (hf i j kd hi hj).1
   ·rw [hk] at t;cases t;obtain ⟨i,hi,e⟩:=List.mem_map.1 bd;refine ⟨_,e.symm,by simp,fun j kd hj=>?_⟩
    rw [l i j (al hj)];exact (hf i j kd (List.mem_range.1 hi) hj).2.1
   ·have e:(D.slc false ((List.range n).map fun i=>D.row ((List.range ks.length).map (f i)))).rows.length=d.rows.length:=by rw [hn];simp [D.rows]
    rw [e];exact hs.1
   ·rw [hk] at t;cases t
    have an:i<n:=by
     have:i<((List.range n).map fun i=>D.row ((List.range ks.length).map (f i))).length:=hi
     simpa using this
    show ShK K o m kd ((((List.range n).map fun i=>D.row ((List.range ks.length).map (f i))).getD i default).cells.getD j default)
    rw [I i an];show ShK K o m kd (((List.range ks.length).map (f i)).getD j default);rw [l i j (al hj)];exact (hf i j kd an hj).2.2 (hs.2 ks hk i (by rw [hn];exact an) j kd hj)
theorem DVL.can {K:TypeId→Option (List Kd)} {M:Nat→Option (Array Value)} {o:Option Nat}:∀{ks:List Kd} {cs:List Value} {xs:List D},DVL K M ks cs xs→ShL K o 9 ks xs→∃l,DVL K M ks cs l∧(Can ks l∧Py K 9 ks l)∧ShL K o 9 ks l
 |[],[],[],h,_=>⟨[],h,⟨trivial,fun j kd h=>by simp at h⟩,fun j kd h=>by simp at h⟩
 |k::ks,v::vs,d::ds,h,I=>by
  obtain ⟨l,J,⟨r,h3⟩,h4⟩:=DVL.can (o:=o) h.2 (fun j kd hj=>by simpa using I (j+1) kd (by simpa using hj))
  obtain ⟨d',q1,t,q3⟩:=DV.canK (o:=o) 9 k v d h.1;refine ⟨d'::l,⟨q1,J⟩,⟨?_,fun j kd hj=>?_⟩,fun j kd hj=>?_⟩
  rotate_left 2
  ·cases j with
   |zero=>simp only [Nf,C2] at hj;subst hj;exact q3 (I 0 k rfl)
   |succ j=>simpa using h4 j kd (by simpa using hj)
  ·cases k with
   |int k=>exact ⟨t,r⟩
   |bool=>exact ⟨t,r⟩
   |str=>exact ⟨t,r⟩
   |slice e=>exact r
  ·cases j with
   |zero=>simp only [Nf,C2] at hj;subst hj;exact t
   |succ j=>simpa using h3 j kd (by simpa using hj)
theorem ShL.append {K:TypeId→Option (List Kd)} {o:Option Nat} {m:Nat} {ks ks':List Kd} {xs xs':List D} (l:ks.length=xs.length) (h:ShL K o m ks xs) (h':ShL K o m ks' xs'):ShL K o m (ks++ks') (xs++xs'):=by
 intro j kd hj;rcases R2 j ks.length with c|c
 ·rw [Nj c] at hj;have:=h j kd hj;simpa [Id,Nj (show j<xs.length by omega)] using this
 ·rw [No c] at hj;have:=h' (j-ks.length) kd hj;simpa [Id,No (show xs.length≤j by omega),←l] using this
theorem Py.append {K:TypeId→Option (List Kd)} {m:Nat} {ks ks':List Kd} {xs xs':List D} (l:ks.length=xs.length) (h:Py K m ks xs) (h':Py K m ks' xs'):Py K m (ks++ks') (xs++xs'):=by
 intro j kd hj;rcases R2 j ks.length with c|c
 ·rw [Nj c] at hj;have:=h j kd hj;simpa [Id,Nj (show j<xs.length by omega)] using this
 ·rw [No c] at hj;have:=h' (j-ks.length) kd hj;simpa [Id,No (show xs.length≤j by omega),←l] using this
theorem Can.append {K:TypeId→Option (List Kd)} {M:Nat→Option (Array Value)}:∀{ks ks':List Kd} {cs:List Value} {xs xs':List D},DVL K M ks cs xs→Can ks xs→Can ks' xs'→Can (ks++ks') (xs++xs')
 |[],_,[],[],_,_,_,h'=>h'
 |.int _::_,_,_::_,_::_,_,l,h,h'=>⟨h.1,Can.append l.2 h.2 h'⟩
 |.bool::_,_,_::_,_::_,_,l,h,h'=>⟨h.1,Can.append l.2 h.2 h'⟩
 |.str::_,_,_::_,_::_,_,l,h,h'=>⟨h.1,Can.append l.2 h.2 h'⟩
 |.slice _::ks,ks',_::cs,_::xs,xs',l,h,h'=>Can.append (ks:=ks) (ks':=ks') (cs:=cs) (xs:=xs) (xs':=xs') l.2 h h'
theorem DVL.append {K:TypeId→Option (List Kd)} {M:Nat→Option (Array Value)}:∀{ks ks':List Kd} {t l:List Value} {I r:List D},DVL K M ks t I→DVL K M ks' l r→DVL K M (ks++ks') (t++l) (I++r)
 |[],_,[],_,[],_,_,h=>h
 |_::_,_,_::_,_,_::_,_,h,h'=>⟨h.1,DVL.append h.2 h'⟩
theorem DVL.get {K:TypeId→Option (List Kd)} {M:Nat→Option (Array Value)}:∀{ks:List Kd} {t:List Value} {I:List D},DVL K M ks t I→∀{j:Nat} {k:Kd} {d:D},ks[j]?=some k→I[j]?=some d→∃v,t[j]?=some v∧DV K M k v d
 |[],[],[],_,j,k,d,h,_=>by simp at h
 |_::_,_::_,_::_,h,0,k,d,l,r=>by
  simp only [Nf,C2] at l r;subst l;subst r;exact ⟨_,rfl,h.1⟩
 |_::_,_::_,_::_,h,j+1,k,d,l,r=>by
  simp only [gg] at l r ⊢;exact DVL.get h.2 l r
theorem KQ [U:Unk] (ρ:Ren):∀(ks:List Kd) (q:List Value) (g:List D) (j:Nat),(∀i,i<g.length→U.V.d (j+i)=g.getD i default)→DVL U.K ρ.imm ks q g→VL ρ (JC j ks) q
 |[],[],[],_,_,_=>VL.nil ρ
 |k::ks,v::q,d::g,j,hi,h=>by
  have u:U.V.d j=d:=by have:=hi 0 (by simp);simpa using this
  refine VL.cons ?_ (KQ ρ ks q g (j+1) (fun i A=>by have:=hi (i+1) (by simp;omega);rw [show j+1+i=j+(i+1) by omega,this];simp) h.2)
  have l:=h.1;have w:Ab U.V (.var j)=d:=u;rw [←w] at l;generalize f:Ab U.V (.var j)=B at l;cases l with
  |int k n _ C m=>
   have:=Cc ρ k (.var j);have e:Ac U.V (.var j)=n:=by unfold Ac;rw [f];exact m
   rw [e] at this;exact this
  |bool b _ m=>
   have:=GT ρ true (.var j);have e:(Ag U.V (.var j)==true)=b:=by unfold Ag;rw [f,m];cases b<;>rfl
   rw [e] at this;exact this
  |str s _ m=>
   have:=VR.ss (ρ:=ρ) (.var j);have e:AR U.V (.var j)=s:=by unfold AR;rw [f];exact m
   rw [e] at this;exact this
  |nil e _ o r=>exact .dat e (.var j) _ _ _ (by rw [f];exact .nil e _ o r)
  |empty e a c _ o r=>exact .dat e (.var j) _ _ _ (by rw [f];exact .empty e a c _ o r)
  |slc e b off n c _ ks arr l x y z o t p hv=>exact .dat e (.var j) _ _ _ (by rw [f];exact .slc e b off n c _ ks arr l x y z o t p hv)
theorem HI [U:Unk] {K:TypeId→Option (List Kd)} {M:Nat→Option (Array Value)} {V:Val}:∀(ks:List Kd) (g:List Value) (c:List D) (j:Nat),(∀i,i<c.length→V.d (j+i)=c.getD i default)→DVL K M ks g c→∀e b,(e,b)∈Cj j ks→Ag V e=b
 |[],[],[],_,_,_,e,b,a=>by simp [Cj] at a
 |k::ks,v::g,d::c,j,hi,h,e,b,a=>by
  have o:V.d j=d:=by have:=hi 0 (by simp);simpa using this
  have ih:=HI ks g c (j+1) (fun i r=>by have:=hi (i+1) (by simp;omega);rw [show j+1+i=j+(i+1) by omega,this];simp) h.2 e b
  have l:=h.1;cases l with
  |int k n _ p q=>
   have m:(Ab V (.var j)).toInt=n:=by simp only [Ab,o];exact q
   simp only [Cj] at a;split at a
   ·exact ih a
   ·rename_i l;have f:=p.resolve_left (by simpa using l)
    simp only [hP,hS] at a;rcases a with ⟨rfl,rfl⟩|⟨rfl,rfl⟩|a
    ·rw [Az,s0];simp only [Ac];rw [m];show ¬_<_;have:=f.1;have:=f.2;simp only [Ab,D.toInt];omega
    ·rw [Az,s0];simp only [Ac];rw [m];show ¬_<_;have:=f.1;have:=f.2;simp only [Ab,D.toInt];omega
    ·exact ih a
  |bool=>exact ih a
  |str=>exact ih a
  |nil=>exact ih a
  |empty=>exact ih a
  |slc=>exact ih a
def Gb (w:World) (k:Nat):Option (Array Value):=match w.heap[k]? with
 |some (.cells c _ _)=>some c
 |_=>none
theorem OB {w:World} {a:Addr} {v:Value} (h:w.cell? a=some v):∃arr,Gb w a.block=some arr∧a.spot=none∧arr[a.off]?=some v:=by
 unfold World.cell? at h;unfold Gb;split at h
 ·rename_i c _ _ d;rw [d];split at h
  ·cases h
  ·rename_i b;refine ⟨c,rfl,?_,h⟩;cases e:a.spot with
   |none=>rfl
   |some x=>rw [e] at b;simp at b
 ·cases h
theorem LN {w:World} {base n:Nat} {a:Addr} {cs:List Value} (h:w.cells? base a n=some cs) (o:0<n):∃arr,Gb w a.block=some arr∧a.spot=none∧cs.length=n∧∀j,j<n→arr[a.off+j]?=cs[j]?:=by
 unfold World.cells? at h;split at h
 ·have g:cs.length=n:=by simpa using mapM_some_length h
  have i:∀j,j<n→w.cell? (a.add j)=cs[j]?:=fun j hj=>mapM_some_get h j j (by simp [hj])
  have c:=i 0 o;have k:a.add 0=a:=by simp [Addr.add]
  rw [k] at c;have d:cs[0]?=some cs[0]:=by simp
  rw [d] at c;obtain ⟨arr,e,p,q⟩:=OB c;refine ⟨arr,e,p,g,fun j hj=>?_⟩
  have b:=i j hj;have f:cs[j]?=some cs[j]:=by simp [g,hj]
  rw [f] at b ⊢;obtain ⟨l,p1,p2,p3⟩:=OB b;by_cases m:j=0
  ·subst m;rw [k] at p1 p3;rw [e] at p1;cases p1;exact p3
  ·simp only [Addr.add,if_neg m] at p1 p3;rw [e] at p1;cases p1;exact p3
 ·cases h
theorem KC {P:Nat→D→Prop}:∀(n:Nat),(∀i,i<n→∃d,P i d)→∃l:List D,l.length=n∧∀i,i<n→∃d,l[i]?=some d∧P i d
 |0,_=>⟨[],rfl,fun i hi=>by omega⟩
 |n+1,h=>by
  obtain ⟨l,a,b⟩:=KC n (fun i hi=>h i (by omega))
  obtain ⟨d,c⟩:=h n (by omega)
  refine ⟨l++[d],by simp [a],fun i hi=>?_⟩
  by_cases e:i<n
  ·obtain ⟨x,f,g⟩:=b i e;exact ⟨x,by rw [Nj (by omega)];exact f,g⟩
  ·have:i=n:=by omega
   subst this;exact ⟨d,by rw [No (by omega),a];simp,c⟩
theorem MU {a:TypeId→Nat→Bool} {b c:TypeId→Option (List Kd)} (h:∀t ks,b t=some ks→c t=some ks):∀(fs:List Field) (off:Nat) (ks:List Kd),EN a b fs off=some ks→EN a c fs off=some ks
 |[],_,_,q=>q
 |f::r,off,ks,q=>by
  simp only [EN] at q ⊢;split at q
  ·rename_i j d e;rw [h _ _ e];split at q
   ·rename_i l2 g i;simp only [d,g,MU h r _ _ i];exact q
   ·cases q
  ·cases q
theorem OY {desc:TypeId→Option TypeDesc} {a:TypeId→Nat→Bool}:∀(n:Nat) (t:TypeId) (ks:List Kd),D4 false desc a n t=some ks→D4 true desc a n t=some ks
 |0,_,_,h=>h
 |n+1,t,ks,h=>by
  have key:∀l,JW false a (D4 false desc a n) (desc t)=some l→JW true a (D4 true desc a n) (desc t)=some l:=by
   intro l q;cases b:desc t with
   |none=>rw [b] at q;exact q
   |some d=>
    rw [b] at q;cases d<;>first|exact q|skip
    ·simp [JW] at q
    ·exact MU (OY n) _ _ _ q
  simp only [D4] at h ⊢;split at h
  ·rename_i l c;rw [key l c];exact h
  ·cases h
theorem W0 {E:Env} {t:TypeId} {ks:List Kd} (h:E.kinds0 t=some ks):E.kinds t=some ks:=OY 20 t ks h
theorem Yd {E:Env} {L:List TypeId}:∀{l:List TypeId} {e:TypeId},Hp E L l=true→inL e l=true→∃ks,E.kinds0 e=some ks∧ks≠[]∧ks.all (Rv L)=true
 |[],e,_,h=>by simp [inL] at h
 |f::r,e,a,h=>by
  simp only [Hp] at a;split at a
  ·rename_i ks b;simp only [IqQ,zA,List.isEmpty_eq_false_iff] at a;simp only [inL,ws] at h;rcases h with h|h
   ·rw [Ay h];exact ⟨ks,b,a.1.1,a.1.2⟩
   ·exact Yd a.2 h
  ·cases a
section
variable {E:Env} {L:List TypeId} {H:Type} {enc:TypeId×Value→H} {w:World} {base:Nat} {sp:Nat→Bool} {held:Bool}
theorem Ia [U:Unk] (hE:OK E) {t:TypeId} {n:Nat} (h:E.szIs t n=true):E.P.cellsOf t=n:=by
 unfold Env.szIs at h;cases hi:E.ty.get t with
 |none=>rw [hi] at h;cases h
 |some i=>rw [hi] at h;simp [Program.cellsOf,hE.ty t i hi,Ay h]
theorem Uk [U:Unk] (hE:OK E) {rec_:TypeId→Option (List Kd)} {o:Option Nat} {m:Nat} {cs:List Value} (b:∀t ks cs x,rec_ t=some ks→ks.all (Rv L)=true→DataW.trod enc E.P w base sp held m t cs=some x→Bq o x.1→∃c,DVL E.kinds (Gb w) ks cs c∧∀q,ShL E.kinds o q ks c) :
  ∀(fs:List Field) (off:Nat) (ks:List Kd),EN E.szIs rec_ fs off=some ks→ks.all (Rv L)=true→(∀f∈fs,∃x,DataW.trod enc E.P w base sp held m f.type ((cs.drop f.offset).take (E.P.cellsOf f.type))=some x∧Bq o x.1)→∃c,DVL E.kinds (Gb w) ks ((cs.drop off).take ks.length) c∧∀q,ShL E.kinds o q ks c:=by
 intro fs
 induction fs with
 |nil=>intro off ks h _ _;simp [EN] at h;subst h;exact ⟨[],by simp [DVL],fun q j kd h=>by simp at h⟩
 |cons f r ih=>
  intro off ks h a p;simp only [EN] at h;split at h
  ·rename_i k1 s u;split at h
   ·rename_i l v y;cases h;rw [List.all_append,IqQ] at a;obtain ⟨x,g,i⟩:=p f (by simp)
    have d:=Ay s;have k:=Ia hE v;obtain ⟨d1,n,z⟩:=b _ _ _ _ u a.1 g i;rw [k,d] at n;obtain ⟨d2,A,B⟩:=ih _ _ y a.2 (fun f C=>p f (by simp [C]))
    have e:(cs.drop off).take (k1++l).length=(cs.drop off).take k1.length++(cs.drop (off+k1.length)).take l.length:=by
     rw [lv,List.take_add,List.drop_drop]
    rw [e];exact ⟨d1++d2,n.append A,fun q=>(z q).append n.len.2 (B q)⟩
   ·cases h
  ·cases h
theorem ZK [U:Unk] (hE:OK E) (hL:Hp E L L=true) {o:Option Nat}:∀(m n:Nat) (t:TypeId) (ks:List Kd) (cs:List Value) (x:DataW H×List MemPlace),D4 false E.desc E.szIs n t=some ks→ks.all (Rv L)=true→DataW.trod enc E.P w base sp held m t cs=some x→Bq o x.1→∃g,DVL E.kinds (Gb w) ks cs g∧∀q,ShL E.kinds o q ks g:=by
  intro m
  have one:∀{kd:Kd} {d:D},(∀q,ShK E.kinds o q kd d)→∀q,ShL E.kinds o q [kd] [d]:=by
    intro kd d h q j al hj;cases j with
    |zero=>simp only [Nf,C2] at hj;subst hj;exact h q
    |succ j=>simp at hj
  induction m using Nat.strongRecOn with
  |_ m ih=>
    intro n t ks cs x Y B r p;obtain ⟨aa,n',rfl,h⟩:=kinds_size Y;clear Y;cases hd:E.desc t with
    |none=>rw [hd] at h;cases h
    |some d=>
      have J:=hE.und hd;rw [hd] at h;cases m with
      |zero=>simp [DataW.trod] at r
      |succ m=>
      cases d<;>first | (cases h;done)|skip
      case bool=>
        cases h;unfold DataW.trod at r;rw [J] at r;split at r<;>simp_all
        exact ⟨[.bool _],⟨.bool _ _ rfl,trivial⟩,one fun q=>by cases q<;>trivial⟩
      case int k=>
        cases h;unfold DataW.trod at r;rw [J] at r
        have go:∀{K:IntKind} {n:Int},(K=k∧(Lit.int k n).wf=true)→∃g,DVL E.kinds (Gb w) [.int k] [.int K n] g∧∀q,ShL E.kinds o q [.int k] g:=by
          rintro K n ⟨rfl,hw⟩
          have hb:K.min≤n∧n≤K.max:=by simpa [Lit.wf] using hw
          exact ⟨[.int n],⟨.int _ _ _ (.inr hb) rfl,trivial⟩,one fun q=>by cases q<;>trivial⟩
        split at r<;>first | (cases r;done)|skip
        all_goals
          first
            | (split at r
               · rename_i hq;simp_all
               · cases r)
            |simp_all
      case string=>
        cases h;unfold DataW.trod at r;rw [J] at r;split at r<;>first | (simp at r;done)|skip
        all_goals first
          | (rename_i hh;cases hh;done)
          | (rename_i hh _;cases hh;done)
          |skip
        all_goals
          rename_i s _;split at r
          · simp only [C2] at r
            subst r;exact ⟨[.str s],⟨.str _ _ rfl,trivial⟩,one fun q=>by cases q<;>(simp only [Bq] at p;exact p)⟩
          · cases r
      case slice e=>
        cases h;simp only [List.all_cons,List.all_nil,Bool.and_true,Rv] at B;obtain ⟨ke,z,ab,M⟩:=Yd hL B;have C:=W0 z;rcases DataW.trod_slice J r with ⟨rfl,_⟩|⟨a,len,N,l,rest,q,hq,rfl,O,hb,hl,hc,u,Q,_,_⟩
        · exact ⟨[.slc true []],⟨.nil e _ rfl rfl,trivial⟩,one fun q=>by cases q<;>first|trivial|exact ⟨fun b _=>zz b,fun _ _ i hi=>absurd hi (gk i)⟩⟩
        · by_cases Y:len=0
          · subst Y
            exact ⟨[.slc false []],⟨.empty e a N _ rfl rfl,trivial⟩,one fun q=>by cases q<;>first|trivial|exact ⟨fun b _=>zz b,fun _ _ i hi=>absurd hi (gk i)⟩⟩
          · have ac:E.P.cellsOf e=ke.length:=Ia hE (kinds_size C).1
            have A:0<ke.length:=by cases ke with|nil=>exact absurd rfl ab|cons=>simp
            rw [ac] at Q
            obtain ⟨rows,r1,r2⟩:=KC (P:=fun i d=>∃g cells,d=.row g∧w.cells? base (a.add (i*ke.length)) ke.length=some cells∧DVL E.kinds (Gb w) ke cells g∧∀q,ShL E.kinds o q ke g) len (by
              intro i hi;have:=Q i hi;have he:l[i]?=some l[i]:=by simp [u,hi]
              rw [he] at this;simp only [Option.bind_eq_some_iff] at this;obtain ⟨cells,c1,c2⟩:=this
              have ad:Bq o (l[i]).1:=by
                rw [O] at p;simp only [Bq] at p;exact p.2.get (i:=i) (by simp [u,hi])
              obtain ⟨g,ae,R⟩:=ih q (by omega) 20 e ke cells _ z M c2 ad
              exact ⟨.row g,g,cells,rfl,c1,ae,R⟩)
            obtain ⟨_,_,am,Z,_,c0,_⟩:=r2 0 (by omega)
            have ea:a.add (0*ke.length)=a:=by simp [Addr.add]
            rw [ea] at c0;obtain ⟨arr,s1,s2,_,s4⟩:=LN c0 A;have S:a=⟨a.block,a.off,none⟩:=by cases a;simp at s2;simp [s2]
            have key:∀i,i<len→∃g cells,rows[i]?=some (.row g)∧(DVL E.kinds (Gb w) ke cells g∧∀q,ShL E.kinds o q ke g)∧∀j,j<ke.length→arr[a.off+i*ke.length+j]?=cells[j]?:=by
              intro i hi;obtain ⟨d,F,g,cells,y,T,g4,g5⟩:=r2 i hi;subst y;refine ⟨g,cells,F,⟨g4,g5⟩,?_⟩;obtain ⟨ak,t1,t2,_,t4⟩:=LN T A;by_cases hz:i*ke.length=0
              · rw [hz] at t1 t4 ⊢
                have e0:a.add 0=a:=by simp [Addr.add]
                rw [e0] at t1 t4;rw [s1] at t1;cases t1;simpa using t4
              · simp only [Addr.add,if_neg hz] at t1 t4
                rw [s1] at t1;cases t1;exact t4
            refine ⟨[.slc false rows],⟨?_,trivial⟩,one fun q=>by
              cases q with
              |zero=>trivial
              |succ q=>
                refine ⟨by
                  rw [O] at p;simp only [Bq] at p;have e:(D.slc false rows).rows.length=l.length:=by rw [u];exact r1
                  rw [e];exact (show (l.map (·.1)).length=l.length from List.length_map _)▸p.1,fun af ag i hi j kd hj=>?_⟩
                have ah:af=ke:=Option.some.inj (ag.symm.trans C);subst ah;have G:i<len:=by have:i<rows.length:=hi;omega
                obtain ⟨g,cells,F,⟨_,y⟩,_⟩:=key i G;have V:(D.rows (.slc false rows)).getD i default=.row g:=by simp [D.rows,Id,F]
                rw [V];exact y q j kd hj⟩
            rw [S];refine .slc e a.block a.off len N (.slc false rows) ke arr C s1 r1 hl rfl ?_ (fun i hi=>?_) ?_
            · obtain ⟨g,cells,_,⟨y,_⟩,T⟩:=key (len-1) (by omega)
              have:=T (ke.length-1) (by omega)
              have an:=y.len.1;have ai:cells[ke.length-1]?=some (cells[ke.length-1]'(by omega)):=by simp
              rw [ai] at this;have ao:=(Array.getElem?_eq_some_iff.1 this).1
              have:len*ke.length=(len-1)*ke.length+ke.length:=by
                rw [←Nat.succ_mul];congr 1;omega
              omega
            · obtain ⟨g,cells,F,⟨y,_⟩,_⟩:=key i hi
              have V:(D.rows (.slc false rows)).getD i default=.row g:=by simp [D.rows,Id,F]
              rw [V];exact y.len.2.symm
            · intro i j kd hi hj
              obtain ⟨g,cells,F,⟨y,_⟩,T⟩:=key i hi;have V:(D.rows (.slc false rows)).getD i default=.row g:=by simp [D.rows,Id,F]
              rw [V];have W:j<ke.length:=(LT.1 hj).1
              have aj:g[j]?=some ((D.cells (.row g)).getD j default):=by
                have:j<g.length:=by rw [←y.len.2];exact W
                simp [D.cells,Id,this]
              obtain ⟨v,v1,v2⟩:=y.get hj aj;have:=T j W;rw [v1] at this;have ev:arr.getD (a.off+i*ke.length+j) Go.undef=v:=by simp [Mf,this]
              rw [ev];exact v2
      case struct fs=>
        simp only [JW] at h;obtain ⟨xs,q,e1,e2,e3,e4,e5⟩:=DataW.trod_struct J r;rw [e2] at p;simp only [Bq] at p
        obtain ⟨g,this,I⟩:=Uk hE (L:=L) (o:=o) (m:=q) (cs:=cs) (fun t ks cs x a b c d=>ih q (by omega) n' t ks cs x a b c d) fs.toList 0 ks h B (fun f hf=>by
          obtain ⟨i,hi,rfl⟩:=ue hf;have G:i<fs.size:=by simpa using hi
          have h5:=e5 i fs[i] (by simp [G])
          have X:i<xs.length:=by omega
          exact ⟨xs[i],by simpa [X] using h5,p.get (i:=i) (by simp [X])⟩)
        have u:cs.length=ks.length:=by rw [e3,Ia hE aa]
        rw [List.drop_zero,←u,List.take_length] at this;exact ⟨g,this,I⟩
theorem dn [U:Unk] (hE:OK E) (hL:Hp E L L=true) {o:Option Nat}:∀(ts:List TypeId) (g:List Value) (k:List (DataW H)) (O:List MemPlace) (ks:List Kd),DataW.TrodAll enc E.P w base sp held ts g k O→
  (∀(j:Nat) t v,ts[j]?=some t→g[j]?=some v→∃r X,Value.okWide E.P w r X t v)→Br E ts=some ks→ks.all (Rv L)=true→BG o k→
  ∃(cs:List Value) (m:List D),DVL E.kinds (Gb w) ks cs m∧((Can ks m∧Py E.kinds 9 ks m)∧ShL E.kinds o 9 ks m)∧∀(U:Unk) (j:Nat) (args:List AV) (s:Ren),U.K=E.kinds→s.imm=Gb w→(∀i,i<m.length→U.V.d (j+i)=m.getD i default)→Ge E j ts=some args→VL s args g:=by
 intro ts
 induction ts with
 |nil=>
  intro g k O ks z f u _ _;cases g with
  |nil=>
   simp [Br] at u;subst u;exact ⟨[],[],trivial,⟨⟨trivial,fun j kd h=>by simp at h⟩,fun j kd h=>by simp at h⟩,fun U j args s _ _ _ b=>by simp [Ge] at b;subst b;exact VL.nil s⟩
  |cons=>cases k<;>simp [DataW.TrodAll] at z
 |cons t ts ih=>
  intro g k O ks z f u x A;cases g with
  |nil=>cases k<;>simp [DataW.TrodAll] at z
  |cons v g=>
   cases k with
   |nil=>simp [DataW.TrodAll] at z
   |cons d k=>
    obtain ⟨p,q,⟨B,hx⟩,Q,_⟩:=z;simp only [Br] at u;split at u
    ·rename_i k1 l y hl;cases u;rw [List.all_append,IqQ] at x;obtain ⟨cs,m,q1,qc,q2⟩:=ih g k q l Q (fun j t v ht hv=>f (j+1) t v (by simpa using ht) (by simpa using hv)) hl x.2 A.2
     obtain ⟨x0,C,F⟩:=ZK hE hL (o:=o) B 20 t k1 _ _ y x.1 hx A.1;obtain ⟨x1,c,G,I⟩:=C.can (F 9);refine ⟨v.cells.toList++cs,x1++m,c.append q1,⟨⟨Can.append c G.1 qc.1.1,G.2.append c.len.2 qc.1.2⟩,I.append c.len.2 qc.2⟩,?_⟩;intro Y j args s hK Z n b;obtain ⟨r,X,e⟩:=f 0 t v rfl rfl;have aa:k1.length=x1.length:=c.len.2;simp only [Ge] at b;split at b
     ·rename_i d0 ab hd J;rw [y] at J;cases J;have R:=OK.und (U:=U) hE hd;clear ih;split at b
      ·rename_i rr S
       have tail:=q2 Y (j+k1.length) rr s hK Z (fun i hi=>by
        have:=n (x1.length+i) (by simp only [lv];omega)
        rw [show j+k1.length+i=j+(x1.length+i) by omega,this]
        simp [Id,No]) S
       have head:=KQ (U:=Y) s k1 v.cells.toList x1 j (fun i hi=>by
        have:=n i (by simp only [lv];omega)
        rw [this];simp [Id,Nj hi]) (by rw [hK,Z];exact c)
       split at b
       ·rename_i T;cases b;refine VL.cons ?_ tail;cases d0<;>simp [J5] at T
        unfold Value.okWide at e;rw [R] at e;obtain ⟨M,rfl,_⟩:=e;exact .agg _ M.toList head.1 head.2
       ·rename_i T;split at b
        ·rename_i a N;cases b;refine VL.cons ?_ tail;rw [N] at head
         have W:v.cells.toList=[v]:=by
          cases v<;>first|rfl|skip
          rename_i M
          exfalso
          unfold Value.okWide at e;rw [R] at e;obtain ⟨_,_,_,y⟩:=kinds_size y;rw [hd] at y;cases d0<;>simp [J5] at T<;>first | (cases y;done)|skip
          all_goals simp [Cell.okWide,Cell.ok,R] at e
         rw [W] at head;obtain ⟨v',r',e1,e2,_⟩:=head.cons_inv;cases e1;exact e2
        ·cases b
      ·cases b
     ·cases b
    ·cases u
theorem IA.none (h:Gl.tab=.nil) (M:Nat→Option (Array Value)):IA M:=fun g l r=>by rw [h,T.get_nil] at r;cases r
theorem X7 [U:Unk] (w:World) (a:IA (Gb w)):HR ⟨fun _=>none,Gb w⟩ (T.nil:T Ak).get w:=by
 refine ⟨fun b base h=>(by cases h),fun b base x h=>(by cases h),fun b i base d _ h=>(by cases h),fun k arr h=>?_,fun k arr b base _ h=>(by cases h),a⟩
 simp only [Gb] at h;split at h
 ·rename_i c e f g;cases h;exact ⟨e,f,g⟩
 ·cases h
end
theorem KY {H:Type} {enc:TypeId×Value→H} {P:Program} {w:World} {base:Nat} {c:Nat→Bool} {a:Bool}:∀{ts:List TypeId} {d:List Value} {b:List (DataW H)} {e:List MemPlace},DataW.TrodAll enc P w base c a ts d b e→b.length=ts.length
 |[],[],[],_,_=>rfl
 |_::_,_::_,_::_,_,⟨_,_,_,h,_⟩=>by simp [KY h]
 |[],_::_,_,_,h=>by simp [DataW.TrodAll] at h
 |[],[],_::_,_,h=>by simp [DataW.TrodAll] at h
 |_::_,[],_,_,h=>by simp [DataW.TrodAll] at h
 |_::_,_::_,[],_,h=>by simp [DataW.TrodAll] at h
theorem HN {H:Type} {enc:TypeId×Value→H} {P:Program} (j:laidOutB P=true) {W k:World} (l:Below W.heap.size W k):∀{ts:List TypeId} {e:List Value} {f:List (DataW H)} {c:List MemPlace},
  (∀t∈ts,P.readableRec t=true∧t<P.types.size)→DataW.TrodAll enc P W 0 (fun _=>true) true ts e f c→(∀x∈c,x.block<W.heap.size)→DataW.TrodAll enc P k 0 (fun b=>decide (b<W.heap.size)) true ts e f c
 |[],[],[],_,_,h,_=>h
 |t::ts,v::e,d::f,c,g,⟨p,q,m,n,o⟩,a=>by
  subst o;exact ⟨p,q,Below.trod j (g t (by simp)).1 (g t (by simp)).2 m l (fun x i=>a x (by simp [i])),HN j l (fun t r=>g t (by simp [r])) n (fun x i=>a x (by simp [i])),rfl⟩
 |[],_::_,_,_,_,h,_=>by simp [DataW.TrodAll] at h
 |[],[],_::_,_,_,h,_=>by simp [DataW.TrodAll] at h
 |_::_,[],_,_,_,h,_=>by simp [DataW.TrodAll] at h
 |_::_,_::_,[],_,_,h,_=>by simp [DataW.TrodAll] at h
end Go.AE

