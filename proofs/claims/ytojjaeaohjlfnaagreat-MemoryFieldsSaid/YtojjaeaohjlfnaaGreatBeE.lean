/- What is proved here: an evaluator of the model's steps that the kernel can run, and that whatever it answers is what the model does (part 5 of 8: AeStep7, AeDraw1, AeDraw2, AeDraw3, AeDraw4, AeDraw5, AeDraw6, AeDraw7, AeDraw8, AeRun1, AeRun2, AeNorm, AeCode, AePat1, AePat2, AePat3). Conditions: those that each theorem states; they hold of no one program. -/
import Derived.Test.YtojjaeaohjlfnaaGreatBeD
import Derived.Orders
set_option linter.unusedVariables false
set_option linter.unusedSectionVars false
set_option linter.unusedSimpArgs false
namespace Go.AE
variable [Gl:AH]
variable [U:Unk]
section
variable {E:Env} (hE:OK E) {ρ:Ren} {h:Aa} {w:World} {c:Frame} {f:AF} {cs:List AF} {ccs base:List Frame} {s s':AS}
theorem AN.to {P:Program} (l:SR ρ s c ccs w) {k:List AI} {t:List Item} (I:IL ρ k t) (r:step P (lone c (ccs++base) w)=.next (lone {c with todo:=t} (ccs++base) w)) :
  AN P base ρ s.h c ccs w w {s with fr:={s.fr with todo:=k}}:=
 ⟨ρ,_,ccs,w,r,⟨⟨l.fr.fn,l.fr.tm,I,l.fr.defers,l.fr.mode,l.fr.kind,l.fr.round⟩,l.cs,l.h⟩,Ext.refl _ _ _⟩
theorem Up (ops:Array Oper):ops.toList.map some=(List.range ops.size).map fun i=>ops[i]?:=by
 apply List.ext_getElem (by simp)
 intro i a b;simp at a;simp [a]
theorem Dw (tmps:T AV) (c:Call) (h:Aa):(∃d,GP tmps c h=.defer d h)∨∃y,GP tmps c h=.bad y:=by
 unfold GP;split
 ·split
  ·exact .inl ⟨_,rfl⟩
  ·exact .inr ⟨_,rfl⟩
 ·exact .inr ⟨_,rfl⟩
theorem Hd.not_run {ρ:Ren} {a:Hd} {m:FrameMode} (h:MR ρ a m) (l:a≠.run):m≠.run:=by
 cases h with
 |run=>exact absurd rfl l
 |ret=>exact fun e=>by cases e
 |panic=>exact fun e=>by cases e
include hE
theorem jE (a:SR ρ s c ccs w) (q:c.mode=.run) (A:s.fr.mode=.run) {all:Array Oper} {o:Oper} {rest:List Oper} {k:List AI} (B:s.fr.todo=.ops all (o::rest)::k)
  (g:(match Be all o s.fr.tmps with
   |some true=>Bx E s.fr s.cs (aop E s.fr.tmps s.h o.op)
   |some false=>Bx E s.fr s.cs (.val .undef s.h)
   |none=>.bad "wanted")=.next s') (m:AG ρ s.h.nx s'.h.nx):AN E.P base ρ s.h c ccs w w s':=by
 have j:=a.fr.todo;rw [B] at j;obtain ⟨i,C,F,e,x,z,G⟩:=j.ops_inv;split at g
 ·rename_i r;have n:=Bu a.fr.tm r
  have D:c.roundOf=none∨∀cl,o.op≠.defer cl:=by
   cases p:o.op with
   |defer cl=>
    left;have b:=a.fr.round;rcases Dw s.fr.tmps cl s.h with ⟨d,t⟩|⟨y,t⟩
    ·have l:aop E s.fr.tmps s.h o.op=.defer d s.h:=by rw [p];simpa [aop] using t
     rw [l] at g;simp only [Bx] at g;split at g
     ·cases g
     ·rename_i u;rw [u] at b;exact b.none_inv
    ·have l:aop E s.fr.tmps s.h o.op=.bad y:=by rw [p];simpa [aop] using t
     rw [l] at g;cases g
   |_=>exact .inr fun cl e=>by cases e
  exact Fd hE (by rw [CU q e x n D]) (HB hE a.h a.fr.evR o) a.h a.fr a.cs q g m
 ·rename_i r;have n:=Bu a.fr.tm r;simp only [Bx] at g;split at g
  ·rename_i H v;cases g;exact ⟨ρ,_,ccs,w,NG q e x n,⟨BG a.fr v (VR.undef ρ),a.cs,a.h⟩,Ext.refl _ _ _⟩
  ·cases g
 ·cases g
omit hE in
theorem Ez.congr {s t:Sem Next} {r:Res} (e:s.run E.P w=t.run E.P w) (d:Ez E ρ h w t r):Ez E ρ h w s r:=by
 cases r with
 |bad y=>trivial
 |_=>simpa only [Ez,e] using d
def Ly (a:Option Nat):Sem (Nat×List Deferred):=match a with
  |some l=>do pure ((←Instr.getLoop l).defers,[])
  |none=>do
   let r ←newObj (.deferred (some []))
   pure (r,[{target:=.collected r,args:=#[]}])
omit hE in
theorem QS (hr:HR ρ h.blk.get w) (hf:FrR ρ f c) {d:Nat} {h1:Aa} {mark:List AD} (hc:S2 f h=some (d,h1,mark)) (hfree:AG ρ h.nx h1.nx) :
  ∃σ w1 bd mark',(Ly c.roundOf).run E.P w=.ok (bd.cb,mark') w1∧σ d=some bd∧DL σ mark mark'∧HR σ h1.blk.get w1∧Ext ρ σ h h1 w w1:=by
 have hround:=hf.round;unfold S2 at hc;split at hc
 ·rename_i l hrs;rw [hrs] at hround;obtain ⟨b,hb,hro⟩:=hround.some_inv;split at hc
  ·rename_i hl;simp only [Option.some.injEq,Prod.mk.injEq] at hc;obtain ⟨rfl,rfl,rfl⟩:=hc;obtain ⟨tm,bd,q1,q2,q3⟩:=hr.blk l b _ hb hl;have hg:=Au E.P q3 (fun _ _ _ e=>by cases e)
   refine ⟨ρ,w,bd,[],?_,q1,trivial,hr,Ext.refl _ _ _⟩;simp only [hro,Ly,Instr.getLoop,Sem.run_bind,hg,Result.andThen_ok,Sem.run_pure]
  ·cases hc
 ·rename_i hrn;rw [hrn] at hround;have hro:=hround.none_inv;simp only [Option.some.injEq,Prod.mk.injEq] at hc;obtain ⟨rfl,rfl,rfl⟩:=hc;obtain ⟨q1,q2⟩:=hr.new (hfree h.nx (Nat.le_refl _) (by simp [Aa.new])) (.deferred (some [])) (.deferred (some [])) 0 ⟨[],trivial,rfl⟩ {w with heap:=w.heap.push (.deferred (some []))} rfl rfl rfl rfl
  have hu:(ρ.upd h.nx ⟨w.heap.size,0,0⟩) h.nx=some ⟨w.heap.size,0,0⟩:=by simp [Ren.upd]
  refine ⟨_,_,⟨w.heap.size,0,0⟩,[{target:=.collected w.heap.size,args:=#[]}],?_,hu,⟨⟨_,hu,rfl⟩,trivial⟩,q1,q2⟩;simp only [hro,Ly,Sem.run_bind,run_newObj,Result.andThen_ok,Sem.run_pure]
theorem W3 (q:SR ρ s c ccs w) (N:c.mode=.run) {D:Operand} {params:Array Tmp} {assign body:Code} {k:List AI} {F:List Item} (Q:IL ρ k F) (R:c.todo=.code (.rangeFunc D params assign body)::F)
  (p:G3 E s D params.toList assign body k=.next s') (hfree:AG ρ s.h.nx s'.h.nx):AN E.P base ρ s.h c ccs w w s':=by
 unfold G3 at p;split at p
 ·rename_i d h1 mark u;split at p
  ·rename_i fn first captured G;split at p
   ·rename_i g args S H;split at p
    ·rename_i gf hg;cases p;have z:(h1.new (.loop .ready none s.fr.fn s.fr.nt s.fr.tmps params.toList assign body d)).nx=h1.nx+1:=rfl;obtain ⟨σ,w1,bd,mark',q1,q2,q3,T,A⟩:=QS (E:=E) q.h q.fr u (fun b h1 h2=>hfree b h1 (by simp only [z];omega))
     have v:=q.fr.mono A.le;have n:σ h1.nx=none:=(A.free hfree) h1.nx (Nat.le_refl _) (by simp only [z];omega)
     have o:=Ren.le_upd n ⟨w1.heap.size,0,0⟩;obtain ⟨p1,p2⟩:=T.new n (.loop .ready none s.fr.fn s.fr.nt s.fr.tmps params.toList assign body d)
      (.loop {state:=.ready,pending:=none,fn:=c.fn,tmps:=c.tmps,params:=params,assign:=assign,body:=body,defers:=bd.cb}) 0
      ⟨c.tmps,bd,o.m _ _ q2,v.tm.mono o,by rw [v.fn]⟩
      {w1 with heap:=w1.heap.push (.loop {state:=.ready,pending:=none,fn:=c.fn,tmps:=c.tmps,params:=params,assign:=assign,body:=body,defers:=bd.cb})} rfl rfl rfl rfl
     have hu:(σ.upd h1.nx ⟨w1.heap.size,0,0⟩) h1.nx=some ⟨w1.heap.size,0,0⟩:=by simp [Ren.upd]
     have B:(Instr.enterLoop c.fn c.tmps params assign body c.roundOf).run E.P w=.ok (w1.heap.size,mark') {w1 with heap:=w1.heap.push (.loop {state:=.ready,pending:=none,fn:=c.fn,tmps:=c.tmps,params:=params,assign:=assign,body:=body,defers:=bd.cb})}:=by
      cases hro:c.roundOf with
      |some l=>
       rw [hro] at q1;simp only [Ly,Sem.run_bind,Sem.run_pure] at q1;simp only [Instr.enterLoop,Sem.run_bind,Sem.run_pure,run_newObj,Result.andThen_ok];cases O:(Instr.getLoop l).run E.P w with
       |ok a w2=>
        rw [O] at q1;simp only [Result.andThen_ok,Result.ok.injEq,Prod.mk.injEq] at q1 ⊢;obtain ⟨⟨I,J⟩,K⟩:=q1;rw [I,J,K];exact ⟨⟨rfl,rfl⟩,rfl⟩
       |halt x w2=>rw [O] at q1;cases q1
      |none=>
       rw [hro] at q1;simp only [Ly,Sem.run_bind,Sem.run_pure,run_newObj,Result.andThen_ok,Result.ok.injEq,Prod.mk.injEq] at q1;obtain ⟨⟨I,J⟩,K⟩:=q1;simp only [Instr.enterLoop,Sem.run_bind,Sem.run_pure,run_newObj,Result.andThen_ok];rw [←I,←J,←K]
     refine AN.pre (A.trans p2 hfree) ?_ hfree;have i:=v.mono o;have L:=i.evR D;rw [G] at L;generalize M:c.eval D=cv at L;cases L with
     |func _ V _ _ W c' X Y Z r4 r5=>
      have ha:VL (σ.upd h1.nx ⟨w1.heap.size,0,0⟩) (first++[.func (.yield h1.nx) [] []]) (W++[.func (.yield w1.heap.size) #[] #[]]):=
       VL.append ⟨Y,Z⟩ (VL.cons (.func _ _ [] [] [] [] ⟨_,hu,rfl⟩ rfl (by simp) rfl (by simp)) (VL.nil _))
      have j:=Ea hE p1 X ⟨r4,r5⟩ ha;rw [H] at j;have he:S=_:=j.1;subst he
      refine Fd hE (c:={c with todo:=.inRangeFunc w1.heap.size::F,defers:=mark'++c.defers})
       (f:={s.fr with todo:=.inRange h1.nx::k,defers:=mark++s.fr.defers}) (cs:=s.cs) (Km N R B) (j.congr ?_) p1
       ⟨i.fn,i.tm,.cons (.inRange _ _ hu) ((Q.mono A.le).mono o),(q3.mono o).append i.defers,i.mode,i.kind,i.round⟩ ((q.cs.mono A.le).mono o) N ?_ (fun b l1 l2=>absurd (Nat.lt_of_le_of_lt l1 l2) (Nat.lt_irrefl _))
      ·have C:c.eval (.const (.func (.yield w1.heap.size) #[] #[]))=.func (.yield w1.heap.size) #[] #[]:=rfl;simp [resolve,M,C,Deferred.ofValue]
      ·simp only [Bx,hg]
    ·cases p
   ·cases p
  ·cases p
 ·cases p
theorem Gx (g:SR ρ s c ccs w) (p:A4 E s=.next s') (hfree:AG ρ s.h.nx s'.h.nx):AN E.P base ρ s.h c ccs w w s':=by
 have z:=g.fr.mode;have m:=g.fr.todo;unfold A4 at p;simp only at p;split at p
 ·rename_i D;rw [D] at z
  have v:c.mode=.run:=by
   generalize c.mode=x at z;cases z;rfl
  split at p
  ·rename_i B;rw [B] at m;generalize n:c.todo=td at m;cases m;exact GX g.h g.fr g.cs v (.inl ⟨n,rfl⟩) p hfree
  ·rename_i id k B;rw [B] at m;generalize n:c.todo=td at m;cases m with|cons a u=>
   cases a;cases p;exact AN.to g u (SH v n)
  ·rename_i id k B;rw [B] at m;generalize n:c.todo=td at m;cases m with|cons a u=>
   cases a;cases p;exact AN.to g u (Sk v n)
  ·rename_i b k B;rw [B] at m;generalize n:c.todo=td at m;cases m with|cons a u=>
   cases a;cases p;exact AN.to g (.cons (.code _) (.cons (.inLoop _) u)) (Ui v n)
  ·rename_i all k B;rw [B] at m;generalize n:c.todo=td at m;cases m with|cons a u=>
   cases a with|ops _ _ J K=>
   cases J with
   |cons i J=>cases K
   |nil=>
    cases p;exact AN.to g u (Jg v n)
  ·rename_i all o rest k B;exact jE hE g v D B p hfree
  ·cases p
  ·cases p
  ·cases p
  ·rename_i l k B;rw [B] at m;generalize n:c.todo=td at m;cases m with|cons a u=>
   cases a with|endRange _ b hb=>
   split at p
   ·rename_i st pending fn nt tmps params assign body d hl;split at p
    ·cases p
    ·rename_i N;cases p;obtain ⟨tm,bd,h1,H,L⟩:=g.h.blk l b _ hb hl;have hg:=Au E.P L (fun _ _ _ e=>by cases e)
     obtain ⟨q1,q2⟩:=g.h.setObj hb (by rw [hl];exact fun e=>by cases e) (.loop .exhausted pending fn nt tmps params assign body d)
      (.loop {state:=.exhausted,pending,fn:=fn,tmps:=tm,params:=params.toArray,assign:=assign,body:=body,defers:=bd.cb}) ⟨tm,bd,h1,H,rfl⟩
     have O:=fun o'=>AB (o':=o') E.P L (fun _ _ _ e=>by cases e)
     have Q:(st==LoopState.busy)=false:=by
      cases st<;>first|rfl|exact absurd rfl N
     have M:(Instr.endLoop b.cb).run E.P w=.ok pending {w with heap:=w.heap.setIfInBounds b.cb (.loop {state:=.exhausted,pending,fn:=fn,tmps:=tm,params:=params.toArray,assign:=assign,body:=body,defers:=bd.cb})}:=by
      simp only [Instr.endLoop,Instr.getLoop,Sem.run_bind,hg,Result.andThen_ok,Sem.run_pure,Q,Bool.false_eq_true,if_false,O]
     refine ⟨ρ,_,ccs,_,R0 v n M,⟨⟨g.fr.fn,g.fr.tm,?_,g.fr.defers,g.fr.mode,g.fr.kind,g.fr.round⟩,g.cs,q1⟩,q2⟩;cases pending with
     |none=>exact u
     |some j=>exact .cons (.code _) u
   ·cases p
  ·rename_i k B;rw [B] at m;generalize n:c.todo=td at m;cases m with|cons a u=>
   cases a;have hround:=g.fr.round;split at p
   ·rename_i l hrs;rw [hrs] at hround;obtain ⟨b,hb,hro⟩:=hround.some_inv;split at p
    ·rename_i pending fn nt tmps params assign body d hl;cases p;obtain ⟨tm,bd,h1,H,L⟩:=g.h.blk l b _ hb hl;have hg:=Au E.P L (fun _ _ _ e=>by cases e)
     obtain ⟨q1,q2⟩:=g.h.setObj hb (by rw [hl];exact fun e=>by cases e) (.loop .busy pending fn nt tmps params assign body d)
      (.loop {state:=.busy,pending,fn:=fn,tmps:=tm,params:=params.toArray,assign:=assign,body:=body,defers:=bd.cb}) ⟨tm,bd,h1,H,rfl⟩
     have O:=fun o'=>AB (o':=o') E.P L (fun _ _ _ e=>by cases e)
     refine ⟨ρ,_,ccs,_,MQ v n hro ?_,⟨⟨g.fr.fn,g.fr.tm,u,g.fr.defers,g.fr.mode,g.fr.kind,g.fr.round⟩,g.cs,q1⟩,q2⟩;simp only [Instr.beginRound,Instr.getLoop,Sem.run_bind,hg,Result.andThen_ok,Sem.run_pure,O]
    ·cases p
   ·cases p
  ·rename_i Y k B;rw [B] at m;generalize n:c.todo=td at m;cases m with|cons a u=>
   cases a;split at p
   ·exact GX g.h g.fr g.cs v (.inr (.inl ⟨_,n,rfl⟩)) p hfree
   ·cases p;exact AN.to g u (XN v n)
   ·cases p;exact AN.to g u (Vn v n)
   ·cases p;exact AN.to g (.cons (.code _) (.cons (.code _) u)) (cM v n)
   ·rename_i F x y;have G:=g.fr.evR F;split at p
    ·rename_i C;rw [C] at G;generalize A:c.eval F=S at G;cases G;cases p;exact AN.to g (.cons (.code _) u) (KC v n A)
    ·rename_i C;rw [C] at G;generalize A:c.eval F=S at G;cases G;cases p;exact AN.to g (.cons (.code _) u) (KC v n A)
    ·rename_i pos e C;rw [C] at G;generalize A:c.eval F=S at G;cases G;split at p
     ·rename_i q V;have W:=As U.ok V;rw [W] at A;split at p
      ·rename_i R;rw [R] at A;cases p;exact AN.to g (.cons (.code _) u) (KC v n A)
      ·rename_i R;rw [R] at A;cases p;exact AN.to g (.cons (.code _) u) (KC v n A)
     ·cases p
    ·cases p
   ·cases p;exact AN.to g (.cons (.code _) (.cons (.inBlock _) u)) (W1 v n)
   ·cases p;exact AN.to g (.cons (.code _) (.cons (.inLoop _) u)) (Yo v n)
   ·cases p;exact AN.to g (.cons (.code _) (.cons (.inScope _) u)) (WE v n)
   ·rename_i id;split at p
    ·rename_i k2 C;cases p;obtain ⟨X,h1,H⟩:=(LK u).1 _ C;exact AN.to g H (Yi v n h1)
    ·rename_i C;split at p
     ·cases p
     ·rename_i I;exact GX g.h g.fr g.cs v (.inr (.inr (.inl ⟨_,_,n,(LK u).2 C I,rfl⟩))) p hfree
   ·rename_i id;split at p
    ·rename_i k2 C;cases p;obtain ⟨X,h1,H⟩:=(LL u).1 _ C;exact AN.to g H (Yb v n h1)
    ·rename_i C;split at p
     ·cases p
     ·rename_i I;exact GX g.h g.fr g.cs v (.inr (.inr (.inr ⟨_,_,n,(LL u).2 C I,rfl⟩))) p hfree
   ·exact W3 hE g v u n p hfree
   ·rename_i id ops T;split at p
    ·cases p;exact AN.to g (.cons (.ops _ _ _ (Up _)) u) (Uw v n)
    ·cases p
   ·cases p
 ·rename_i D;exact QY hE g.h g.fr g.cs (Hd.not_run z D) p
end
end Go.AE
namespace Go.AE
variable [Gl:AH]
variable [U:Unk]
def WF (h:Aa):Prop:=∀b,h.nx≤b→h.blk.get b=none
theorem Ext.wf {ρ l:Ren} {h h':Aa} {w r:World} (e:Ext ρ l h h' w r) (t:WF h):WF h':=by
 intro b hb;have:=e.nx;cases I:h'.blk.get b with
 |none=>rfl
 |some x=>
  rcases e.live b (by rw [I];exact fun e=>by cases e) with J|⟨_,h2⟩
  ·exact absurd (t b (by omega)) J
  ·omega
def BH (P:Program) (m:Machine) (c0:Frame) (base:List Frame) (ok:Bool) (v:Value) (w:World):Prop:=
 match ok with
 |true=>Steps P m (lone (c0.finish v) base w)
 |false=>Steps P m (lone (c0.raise [{v:=v,recovered:=false}]) base w)
theorem BH.head {P:Program} {m l:Machine} {c0:Frame} {base:List Frame} {ok:Bool} {v:Value} {w:World} (h:step P m=.next l) (k:BH P l c0 base ok v w):BH P m c0 base ok v w:=by
 cases ok
 ·exact Steps.head h k
 ·exact Steps.head h k
def Db (E:Env) (a:Ask→Aa→Option (Bool×AV×Aa)):Prop:=
 (∀(f:FuncId) (args:List AV) (b:List Value) (h g:Aa) (ok:Bool) (v:AV) (c:Ren) (w:World),VL c args b→HR c h.blk.get w→WF h→a (.enter f args) h=some (ok,v,g)→AG c h.nx g.nx→
  ∀(c0:Frame) (base:List Frame),∃d i e,BH E.P (lone (Frame.enter E.P f b.toArray .normal) (c0::base) w) c0 base ok i e∧VR d v i∧HR d g.blk.get e∧Ext c d h g w e)∧
 (∀(l:Nat) (args:List AV) (h g:Aa) (ok:Bool) (v:AV) (c:Ren) (w:World),HR c h.blk.get w→WF h→a (.round l args) h=some (ok,v,g)→AG c h.nx g.nx→
  ∃fr,GD l args h=some fr∧∀(j:Frame),FrR c fr j→∀(c0:Frame) (base:List Frame),∃d i e,BH E.P (lone j (c0::base) w) c0 base ok i e∧VR d v i∧HR d g.blk.get e∧Ext c d h g w e)
def part (h:Aa):Option (List Nat)→Aa
 |some a=>{blk:=Dk h a,nx:=h.nx,log:=[]}
 |none=>{h with log:=[]}
theorem Ds (h:Aa):∀(l:List Nat) (b:Nat),(Dk h l).get b=none∨(b∈l∧(Dk h l).get b=h.blk.get b)
 |[],b=>.inl (T.get_nil b)
 |c::r,b=>by
  simp only [Dk];cases f:h.blk.get c with
  |none=>
   rcases Ds h r b with q|⟨a,d⟩
   ·exact .inl q
   ·exact .inr ⟨by simp [a],d⟩
  |some x=>
   simp only [T.get_set];by_cases e:c=b
   ·subst e;rw [if_pos rfl];exact .inr ⟨by simp,f.symm⟩
   ·rw [if_neg e];rcases Ds h r b with q|⟨a,d⟩
    ·exact .inl q
    ·exact .inr ⟨by simp [a],d⟩
theorem KH {h:Aa} (c:WF h) (fp:Option (List Nat)):WF (part h fp):=by
 intro b d;cases fp with
 |none=>exact c b d
 |some a=>
  rcases Ds h a b with q|⟨_,q⟩
  ·exact q
  ·exact q.trans (c b d)
theorem N4 {f:Ren} {a:AV} {v:Value} (h:VR f a v):VR f (Xf a) v:=by
 unfold Xf;split
 ·rename_i b i;split
  ·rename_i d;have e:=As U.ok d;cases h with
   |nmap _ _ base g c=>rw [c] at e;cases e
   |nmap0=>exact .map0
  ·rename_i d;have e:=As U.ok d;cases h with
   |nmap _ _ base g c=>exact .map _ base g
   |nmap0 _ _ c=>rw [c] at e;cases e
  ·exact h
 ·exact h
theorem Dv (t:T AV):∀(l:List Tmp) (i:Tmp) (x:AV),(AY t l).get i=some x→i∈l∧∃y,t.get i=some y∧x=Xf y
 |[],i,x,h=>by rw [AY,T.get_nil] at h;cases h
 |c::r,i,x,h=>by
  simp only [AY] at h;cases a:t.get c with
  |none=>
   rw [a] at h;obtain ⟨b,d⟩:=Dv t r i x h;exact ⟨by simp [b],d⟩
  |some y=>
   rw [a] at h;simp only [T.get_set] at h;by_cases e:c=i
   ·subst e;rw [if_pos rfl] at h;cases h;exact ⟨by simp,_,a,rfl⟩
   ·rw [if_neg e] at h;obtain ⟨b,d⟩:=Dv t r i x h;exact ⟨by simp [b],d⟩
section
variable {E:Env} (hE:OK E) {callF:Ask→Aa→Option (Bool×AV×Aa)} {ρ:Ren} {h:Aa} {w:World} {c:Frame} {cs:List Frame}
include hE
theorem NU (Y:Db E callF) {all:Array Oper} {o:Oper} {nt:Nat} {t:T AV} {d:Did} {i:Nat} {rest:List Nat} {k:List Item} (m:Da E callF all o t h=some d) (hwf:WF h) (I:c.mode=.run)
  (A:c.todo=.inRegion all (i::rest)::k) (J:all[i]?=some o) (M:TR ρ nt t c.tmps) (hr:HR ρ (part h d.fp).blk.get w) (p:AG ρ h.nx d.g.nx) :
  ∃D C F,BH E.P (lone c cs w) c cs d.ok C F∧VR D d.v C∧HR D d.g.blk.get F∧Ext ρ D (part h d.fp) d.g w F:=by
 have G:EvR ρ t c.eval:=by
  intro x;have:=I3 M x;cases x<;>exact this
 unfold Da at m;split at m
 ·cases m
 ·rename_i N;have z:=Bu M N;cases m;exact ⟨ρ,undef,w,Steps.one (NG I A J z),VR.undef ρ,hr,Ext.refl _ _ _⟩
 ·rename_i N;have z:=Bu M N;split at m
  ·rename_i H
   have q:∀cl,o.op≠.defer cl:=by
    intro cl e;rw [e] at H;cases H
   simp only at m;split at m
   ·rename_i v g j;cases m;have a:=HB hE (h:=part h (some (VO t h o.op))) hr G o;rw [show aop E t (part h (some (VO t h o.op))) o.op=_ from j] at a
    obtain ⟨D,C,F,K,L,O,Q⟩:=a p;exact ⟨D,C,F,Steps.one (SN I A J z (.inr q) K),L,O,Q⟩
   ·cases m
  ·have s:∀{r:Res},aop E t {h with log:=[]} o.op=r→(∀d g,r≠.defer d g)→(∀y,r≠.bad y)→∀cl,o.op≠.defer cl:=by
    intro r j Z n2 cl e;rw [e] at j;simp only [aop] at j;rcases Dw t cl {h with log:=[]} with ⟨d,R⟩|⟨y,R⟩
    ·exact Z _ _ (j.symm.trans R)
    ·exact n2 _ (j.symm.trans R)
   split at m
   ·rename_i f args h' j;split at m
    ·rename_i ok v g u;cases m;have a:=HB hE (h:=part h none) hr G o;rw [show aop E t (part h none) o.op=_ from j] at a
     obtain ⟨rfl,B,S,n⟩:=a;have q:=s j (fun _ _ e=>by cases e) (fun _ e=>by cases e)
     obtain ⟨D,C,F,K,L,O,Q⟩:=Y.1 f args B (part h none) g ok v ρ w S hr (KH hwf none) u p c cs;exact ⟨D,C,F,K.head (LY I A J z (.inr q) n),L,O,Q⟩
    ·cases m
   ·rename_i l args h' j;split at m
    ·rename_i ok v g u;cases m;have a:=HB hE (h:=part h none) hr G o;rw [show aop E t (part h none) o.op=_ from j] at a
     obtain ⟨rfl,b,B,hb,S,n⟩:=a;have q:=s j (fun _ _ e=>by cases e) (fun _ e=>by cases e)
     obtain ⟨fr,V,W⟩:=Y.2 l args (part h none) g ok v ρ w hr (KH hwf none) u p;obtain ⟨fn,tm,assign,body,K,L⟩:=MX (E:=E) (h:=h) hr hb (show GD l args h=some fr from V) S
     obtain ⟨D,C,F,p1,p2,p3,p4⟩:=W _ L c cs;exact ⟨D,C,F,p1.head (Xy I A J z (.inr q) (n.trans K)),p2,p3,p4⟩
    ·cases m
   ·rename_i v h' j;cases m;have a:=HB hE (h:=part h none) hr G o;rw [show aop E t (part h none) o.op=_ from j] at a
    obtain ⟨rfl,C,hv,n⟩:=a;have q:=s j (fun _ _ e=>by cases e) (fun _ e=>by cases e)
    refine ⟨ρ,C,w,?_,hv,hr,Ext.refl _ _ _⟩;show Steps E.P _ _;have X:=Xj (cs:=cs) I A J z (.inr q) n;exact Steps.one (X.trans (by simp [Frame.raise,I]))
   ·cases m
end
end Go.AE
namespace Go.AE
variable [Gl:AH]
variable [U:Unk]
theorem HZ {b:Nat}:∀{l:List Nat},MG b l=true↔b∈l
 |[]=>by simp [MG]
 |c::r=>by
  simp only [MG,List.mem_cons];cases e:Nat.beq b c with
  |true=>simp [Ay e]
  |false=>simp only;rw [HZ];simp [Qe e]
theorem Ht:∀{l m:List Nat},JA l m=true→∀b∈l,b∉m
 |[],m,_,b,a=>by cases a
 |c::r,m,h,b,a=>by
  simp only [JA] at h;cases e:MG c m with
  |true=>rw [e] at h;cases h
  |false=>
   rw [e] at h;rcases List.mem_cons.1 a with rfl|a
   ·exact fun d=>by rw [HZ.2 d] at e;cases e
   ·exact Ht h b a
theorem QN {lo hi:Nat}:∀{l:List Nat},V4 lo hi l=true→∀b∈l,¬(lo≤b∧b<hi)
 |[],_,b,a=>by cases a
 |c::r,h,b,a=>by
  simp only [V4] at h;cases e:Nat.ble lo c&&Nat.blt c hi with
  |true=>rw [e] at h;cases h
  |false=>
   rw [e] at h;rcases List.mem_cons.1 a with rfl|a
   ·rintro ⟨d,f⟩
    have:(Nat.ble lo b&&Nat.blt b hi)=true:=by simp [Nat.ble_eq,Nat.blt_eq,d,f]
    rw [this] at e;cases e
   ·exact QN h b a
theorem Cp {n b:Nat}:∀{l:List Nat},b∈BE n l↔b∈l∧b<n
 |[]=>by simp [BE]
 |c::r=>by
  simp only [BE];cases e:Nat.blt c n with
  |true=>
   simp only [List.mem_cons,Cp];have:c<n:=by simpa [Nat.blt_eq] using e
   constructor
   ·rintro (rfl|h)
    ·exact ⟨.inl rfl,this⟩
    ·exact ⟨.inr h.1,h.2⟩
   ·rintro ⟨rfl|h,a⟩
    ·exact .inl rfl
    ·exact .inr ⟨h,a⟩
  |false=>
   simp only [List.mem_cons,Cp]
   have:¬c<n:=by
    intro h;have:Nat.blt c n=true:=by simpa [Nat.blt_eq] using h
    rw [this] at e;cases e
   constructor
   ·rintro h;exact ⟨.inr h.1,h.2⟩
   ·rintro ⟨rfl|h,a⟩
    ·exact absurd a this
    ·exact ⟨h,a⟩
structure Rc.Apart (x y:Rc):Prop where
 fp1:∀b∈x.wr,∀l,y.fp=some l→b∉l
 fp1n:y.fp=none→x.wr=[]
 fp2:∀b∈y.wr,∀l,x.fp=some l→b∉l
 fp2n:x.fp=none→y.wr=[]
 wr:∀b∈x.wr,b∉y.wr
 out:∀b∈y.wr,¬(x.lo≤b∧b<x.hi)
 look1:∀t,x.dst=some t→t∉y.looks
 look2:∀t,y.dst=some t→t∉x.looks
 dst:∀t,x.dst=some t→y.dst≠some t
theorem J3 {w l:List Nat} (h:HF w (some l)=true):∀b∈w,b∉l:=Ht h
theorem Rc.apart_ok {x y:Rc} (h:x.apart y=true):x.Apart y:=by
 simp only [Rc.apart,Bool.and_eq_true,Bool.not_eq_true'] at h;obtain ⟨⟨⟨⟨⟨⟨I,J⟩,h3⟩,h4⟩,h5⟩,h6⟩,h7⟩:=h;refine ⟨fun b hb l hl=>?_,fun hn=>?_,fun b hb l hl=>?_,fun hn=>?_,Ht h3,QN h4,fun t r hm=>?_,fun t r hm=>?_,fun t r ab=>?_⟩
 ·rw [hl] at I;exact J3 I b hb
 ·rw [hn] at I;simpa [HF] using I
 ·rw [hl] at J;exact J3 J b hb
 ·rw [hn] at J;simpa [HF] using J
 ·rw [r] at h5;rw [UV,HZ.2 hm] at h5;cases h5
 ·rw [r] at h6;rw [UV,HZ.2 hm] at h6;cases h6
 ·rw [r,ab,WI,Fe] at h7;cases h7
theorem Vh (m i:Nat):Nat.beq (m/2^i%2) 1=m.testBit i:=by
 rw [Nat.testBit_eq_decide_div_mod_eq];by_cases h:m/2^i%2=1
 ·rw [h];rfl
 ·rw [Ef h];simp [h]
theorem Ke {y:Rc}:∀{l:List Rc} {p:Nat},C5 y l p=true→∀i x,l[i]?=some x→y.mask.testBit (p+i)=true∨x.Apart y
 |[],p,h,i,x,a=>by cases a
 |c::r,p,h,i,x,a=>by
  simp only [C5,Vh] at h;cases e:y.mask.testBit p||c.apart y with
  |false=>rw [e] at h;cases h
  |true=>
   rw [e] at h;cases i with
   |zero=>
    simp only [List.getElem?_cons_zero,Option.some.injEq] at a;subst a;rcases Bool.or_eq_true_iff.1 e with e|e
    ·exact .inl e
    ·exact .inr (Rc.apart_ok e)
   |succ i=>
    have:=Ke h i x (by simpa using a)
    rw [show p+(i+1)=p+1+i by omega]
    exact this
theorem DG {recs:List Rc}:∀{j:List Edge} {m:Nat},BJ recs j=some m→
  (∀e∈j,Region.binds .any e=true→∃x,recs[e.on]?=some x)∧
  ∀i,m.testBit i=true↔∃e∈j,Region.binds .any e=true∧∃x,recs[e.on]?=some x∧(x.mask.testBit i=true∨i=e.on)
 |[],m,h=>by
  simp only [BJ,Option.some.injEq] at h;subst h;simp
 |e::r,m,h=>by
  simp only [BJ] at h;cases hr:BJ recs r with
  |none=>rw [hr] at h;cases h
  |some m1=>
   rw [hr] at h;obtain ⟨l,n⟩:=DG hr;simp only at h;cases f:Region.binds .any e with
   |false=>
    rw [f] at h;simp only [Option.some.injEq] at h;subst h;refine ⟨fun a c b=>?_,fun i=>?_⟩
    ·rcases List.mem_cons.1 c with rfl|c
     ·rw [f] at b;cases b
     ·exact l a c b
    ·rw [n];constructor
     ·rintro ⟨a,c,d⟩;exact ⟨a,by simp [c],d⟩
     ·rintro ⟨a,c,b,d⟩
      rcases List.mem_cons.1 c with rfl|c
      ·rw [f] at b;cases b
      ·exact ⟨a,c,b,d⟩
   |true=>
    rw [f] at h;simp only at h;cases g:recs[e.on]? with
    |none=>rw [g] at h;cases h
    |some x=>
     rw [g] at h;simp only [Option.some.injEq] at h;subst h;refine ⟨fun a c b=>?_,fun i=>?_⟩
     ·rcases List.mem_cons.1 c with rfl|c
      ·exact ⟨x,g⟩
      ·exact l a c b
     ·simp only [Nat.testBit_or,Bool.or_eq_true,Nat.testBit_two_pow,decide_eq_true_eq,n];constructor
      ·rintro ((⟨a,c,d⟩|h)|h)
       ·exact ⟨a,by simp [c],d⟩
       ·exact ⟨e,by simp,f,x,g,.inl h⟩
       ·exact ⟨e,by simp,f,x,g,.inr h.symm⟩
      ·rintro ⟨a,c,b,y,k,d⟩
       rcases List.mem_cons.1 c with rfl|c
       ·rw [g] at k;cases k;rcases d with d|d
        ·exact .inl (.inr d)
        ·exact .inr d.symm
       ·exact .inl (.inl ⟨a,c,b,y,k,d⟩)
theorem Fv (blk g:T Ag):∀(l:List Nat) (b:Nat),(b∉l→(GF blk g l).get b=blk.get b)∧(b∈l→(GF blk g l).get b=none∨(blk.get b≠none∧(GF blk g l).get b=g.get b))
 |[],b=>⟨fun _=>rfl,(fun h=>by cases h)⟩
 |c::r,b=>by
  have ih:=Fv blk g r b;simp only [GF];split
  ·rename_i x y a d;rw [T.get_set];refine ⟨fun h=>?_,fun h=>?_⟩
   ·rw [if_neg (by rintro rfl;simp at h)];exact ih.1 (by simp at h;exact h.2)
   ·by_cases e:c=b
    ·subst e;rw [if_pos rfl];exact .inr ⟨(by rw [d];exact Option.some_ne_none _),a.symm⟩
    ·rw [if_neg e];exact ih.2 ((List.mem_cons.1 h).resolve_left (fun q=>e q.symm))
  ·rw [T.get_del];refine ⟨fun h=>?_,fun h=>?_⟩
   ·rw [if_neg (by rintro rfl;simp at h)];exact ih.1 (by simp at h;exact h.2)
   ·by_cases e:c=b
    ·subst e;rw [if_pos rfl];exact .inl rfl
    ·rw [if_neg e];exact ih.2 ((List.mem_cons.1 h).resolve_left (fun q=>e q.symm))
theorem Fz (blk g:T Ag):∀(n i b:Nat),(HO blk g i n).get b=if i≤b∧b<i+n∧g.get b≠none then g.get b else blk.get b
 |0,i,b=>by
  simp only [HO];rw [if_neg (by omega)]
 |n+1,i,b=>by
  have ih:=Fz blk g n (i+1) b;simp only [HO];cases a:g.get i with
  |none=>
   simp only;rw [ih];by_cases e:i=b
   ·subst e;rw [if_neg (by omega),if_neg (by rintro ⟨_,_,h⟩;exact h a)]
   ·by_cases q:i+1≤b∧b<i+1+n∧g.get b≠none
    ·rw [if_pos q,if_pos ⟨by omega,by omega,q.2.2⟩]
    ·rw [if_neg q,if_neg (by rintro ⟨d,f,c⟩;exact q ⟨by omega,by omega,c⟩)]
  |some x=>
   simp only [T.get_set];by_cases e:i=b
   ·subst e;rw [if_pos rfl,if_pos ⟨by omega,by omega,(by rw [a];exact Option.some_ne_none _)⟩,a]
   ·rw [if_neg e,ih];by_cases q:i+1≤b∧b<i+1+n∧g.get b≠none
    ·rw [if_pos q,if_pos ⟨by omega,by omega,q.2.2⟩]
    ·rw [if_neg q,if_neg (by rintro ⟨d,f,c⟩;exact q ⟨by omega,by omega,c⟩)]
section
variable {h g:Aa}
theorem CH (c:h.nx≤g.nx) {b:Nat} (a:b∉BE h.nx g.log) (d:b<h.nx∨g.nx≤b):(AU h g).blk.get b=h.blk.get b:=by
 simp only [AU,Fz];rw [if_neg (by omega)]
 exact (Fv _ _ _ b).1 a
theorem GS {b:Nat} (a:b∈BE h.nx g.log):(AU h g).blk.get b=none∨(h.blk.get b≠none∧(AU h g).blk.get b=g.blk.get b):=by
 have c:=(Cp.1 a).2;simp only [AU,Fz];rw [if_neg (by omega)]
 exact (Fv _ _ _ b).2 a
theorem Hu (c:WF h) (f:h.nx≤g.nx) {b:Nat} (a:h.nx≤b) (i:b<g.nx):(AU h g).blk.get b=g.blk.get b:=by
 simp only [AU,Fz];have d:b∉BE h.nx g.log:=fun e=>by have:=(Cp.1 e).2;omega
 cases j:g.blk.get b with
 |none=>
  rw [if_neg (by rintro ⟨_,_,h⟩;exact h rfl),(Fv _ _ _ b).1 d,c b a]
 |some x=>rw [if_pos ⟨a,by omega,fun e=>by cases e⟩]
theorem G0 (c:WF h) (d:h.nx≤g.nx):WF (AU h g):=by
 intro b f;have a:g.nx≤b:=f;rw [CH d (fun e=>by have:=(Cp.1 e).2;omega) (.inr a)]
 exact c b (by omega)
theorem GE (e:WF h) (d:h.nx≤g.nx) {b:Nat} (a:(AU h g).blk.get b≠none):h.blk.get b≠none∨(h.nx≤b∧b<g.nx):=by
 by_cases f:b<h.nx
 ·by_cases c:b∈BE h.nx g.log
  ·rcases GS c with q|⟨q,_⟩
   ·exact absurd q a
   ·exact .inl q
  ·rw [CH d c (.inl f)] at a;exact .inl a
 ·by_cases c:b<g.nx
  ·exact .inr ⟨by omega,c⟩
  ·exact absurd (G0 e d b (by show g.nx≤b;omega)) a
end
end Go.AE
namespace Go.AE
variable [Gl:AH]
variable [U:Unk]
structure Tx (E:Env) (callF:Ask→Aa→Option (Bool×AV×Aa)) (all:Array Oper) (H:Nat→Aa) (Tm:Nat→T AV) (R:Nat→Rc) (Dd:Nat→Did) (j:Nat) (o:Oper):Prop where
 mask:BJ ((List.range j).map R) o.after.toList=some (R j).mask
 did:Da E callF all o (AY (Tm j) (Bf all o)) (H j)=some (Dd j)
 nx:(H j).nx≤(Dd j).g.nx
structure Good (E:Env) (callF:Ask→Aa→Option (Bool×AV×Aa)) (all:Array Oper) (nt:Nat) (H:Nat→Aa) (Tm:Nat→T AV) (R:Nat→Rc) (Dd:Nat→Did) (j:Nat) (o:Oper):Prop where
 tx:Tx E callF all H Tm R Dd j o
 wr:(R j).wr=BE (H j).nx (Dd j).g.log
 fp:(R j).fp=(Dd j).fp
 lo:(R j).lo=(H j).nx
 hi:(R j).hi=(Dd j).g.nx
 dst:(R j).dst=o.dst
 looks:(R j).looks=Bf all o
 apart:C5 (R j) ((List.range j).map R) 0=true
 put:El nt (Tm j) o.dst (Dd j).v=some (Tm (j+1))
 heap:H (j+1)=AU (H j) (Dd j).g
 ok:(Dd j).ok=true
structure Bad (E:Env) (callF:Ask→Aa→Option (Bool×AV×Aa)) (all:Array Oper) (H:Nat→Aa) (Tm:Nat→T AV) (R:Nat→Rc) (Dd:Nat→Did) (j:Nat) (o:Oper) (rest:List Oper):Prop where
 tx:Tx E callF all H Tm R Dd j o
 ok:(Dd j).ok=false
 all:(R j).mask+1=2^j
 after:∃recs:List Rc,recs.length=j∧recs=(List.range j).map R∧Fi (recs++[{wr:=[],fp:=none,lo:=0,hi:=0,dst:=none,looks:=[],mask:=(R j).mask}]) j rest=true
section
variable {E:Env} {callF:Ask→Aa→Option (Bool×AV×Aa)} {all:Array Oper} {nt:Nat}
theorem I6 {b:Type} {R:Nat→b} {a:List b} (h:∀i x,a[i]?=some x→R i=x):(List.range a.length).map R=a:=by
 apply List.ext_getElem (by simp)
 intro i d c;simp only [List.getElem_map,List.getElem_range];exact h i _ (by simp [c])
theorem Ix:∀(l:List Oper) (a:List Rc) (tmps:T AV) (h:Aa) (r:Option AV) (f:T AV) (h':Aa),BI E callF all nt l a tmps h=some (r,f,h')→
  ∃H A R F m,(∀i x,a[i]?=some x→R i=x)∧H a.length=h∧A a.length=tmps∧(∀i,i<m→∃o,l[i]?=some o∧Good E callF all nt H A R F (a.length+i) o)∧
   (r=none→m=l.length∧f=A (a.length+m)∧h'=H (a.length+m))∧
   (∀v,r=some v→∃o,l[m]?=some o∧Bad E callF all H A R F (a.length+m) o (l.drop (m+1))∧v=(F (a.length+m)).v∧f=A (a.length+m)∧h'=AU (H (a.length+m)) (F (a.length+m)).g)
 |[],a,tmps,h,r,f,h',c=>by
  simp only [BI,Option.some.injEq,Prod.mk.injEq] at c;obtain ⟨rfl,rfl,rfl⟩:=c;exact ⟨fun _=>h,fun _=>tmps,fun i=>a.getD i default,fun _=>default,0,fun i x B=>by simp [B],rfl,rfl,fun i hi=>absurd hi (Nat.not_lt_zero _),fun _=>⟨rfl,rfl,rfl⟩,(fun v K=>by cases K)⟩
 |o::rest,a,tmps,h,r,f,h',c=>by
  simp only [BI] at c;cases s:BJ a o.after.toList with
  |none=>rw [s] at c;cases c
  |some mask=>
   rw [s] at c;simp only at c;cases z:Da E callF all o (AY tmps (Bf all o)) h with
   |none=>rw [z] at c;cases c
   |some d=>
    rw [z] at c;simp only at c;cases G:Nat.ble h.nx d.g.nx with
    |false=>rw [G] at c;cases c
    |true=>
     have N:h.nx≤d.g.nx:=Nat.le_of_ble_eq_true G;cases I:d.ok with
     |true=>
      rw [G,I] at c;simp only at c;cases L:C5 {wr:=BE h.nx d.g.log,fp:=d.fp,lo:=h.nx,hi:=d.g.nx,dst:=o.dst,looks:=Bf all o,mask} a 0 with
      |false=>rw [L] at c;cases c
      |true=>
       rw [L] at c;simp only at c;cases C:El nt tmps o.dst d.v with
       |none=>rw [C] at c;cases c
       |some t1=>
        rw [C] at c;simp only at c;obtain ⟨H,A,R,F,m,Y,Z,q3,q4,q5,q6⟩:=Ix rest _ t1 _ r f h' c;have hl:(a++[({wr:=BE h.nx d.g.log,fp:=d.fp,lo:=h.nx,hi:=d.g.nx,dst:=o.dst,looks:=Bf all o,mask}:Rc)]).length=a.length+1:=by simp
        rw [hl] at Z q3 q4 q5 q6;have hR:R a.length={wr:=BE h.nx d.g.log,fp:=d.fp,lo:=h.nx,hi:=d.g.nx,dst:=o.dst,looks:=Bf all o,mask}:=Y _ _ (by simp)
        have k:∀i x,a[i]?=some x→R i=x:=fun i x B=>Y i x (by rw [List.getElem?_append_left (List.getElem?_eq_some_iff.1 B).1];exact B)
        have D:=I6 k;have q:∀j,a.length+1≤j→(fun i=>if i≤a.length then h else H i) j=H j:=fun j n=>if_neg (by omega)
        have w:∀j,a.length+1≤j→(fun i=>if i≤a.length then tmps else A i) j=A j:=fun j n=>if_neg (by omega)
        have p:∀j,a.length+1≤j→(fun i=>if i≤a.length then d else F i) j=F j:=fun j n=>if_neg (by omega)
        have y:(fun i=>if i≤a.length then h else H i) a.length=h:=if_pos (Nat.le_refl _)
        have J:(fun i=>if i≤a.length then tmps else A i) a.length=tmps:=if_pos (Nat.le_refl _)
        have u:(fun i=>if i≤a.length then d else F i) a.length=d:=if_pos (Nat.le_refl _)
        generalize (fun i=>if i≤a.length then h else H i)=Q at q y
        generalize (fun i=>if i≤a.length then tmps else A i)=O at w J
        generalize (fun i=>if i≤a.length then d else F i)=M at p u
        have P:∀j x,a.length+1≤j→Tx E callF all H A R F j x→Tx E callF all Q O R M j x:=by
         intro j x n t;refine ⟨t.mask,?_,?_⟩
         ·rw [w j n,q j n,p j n];exact t.did
         ·rw [q j n,p j n];exact t.nx
        have e:∀i,a.length+(i+1)=a.length+1+i:=fun i=>by omega
        refine ⟨Q,O,R,M,m+1,k,y,J,?_,?_,?_⟩
        ·intro i hi;cases i with
         |zero=>
          refine ⟨o,rfl,⟨⟨?_,?_,?_⟩,?_,?_,?_,?_,?_,?_,?_,?_,?_,?_⟩⟩
          ·rw [Nat.add_zero,D,hR];exact s
          ·rw [Nat.add_zero,J,y,u];exact z
          ·rw [Nat.add_zero,y,u];exact N
          ·rw [Nat.add_zero,hR,y,u]
          ·rw [Nat.add_zero,hR,u]
          ·rw [Nat.add_zero,hR,y]
          ·rw [Nat.add_zero,hR,u]
          ·rw [Nat.add_zero,hR]
          ·rw [Nat.add_zero,hR]
          ·rw [Nat.add_zero,D,hR];exact L
          ·rw [Nat.add_zero,J,u,w _ (Nat.le_refl _),q3];exact C
          ·show Q (a.length+1)=AU (Q a.length) (M a.length).g;rw [y,u,q _ (Nat.le_refl _),Z]
          ·rw [Nat.add_zero,u];exact I
         |succ i=>
          obtain ⟨x,B,g⟩:=q4 i (by omega)
          have n:a.length+1≤a.length+1+i:=by omega
          refine ⟨x,by simpa using B,?_⟩
          rw [e];refine ⟨P _ _ n g.tx,?_,?_,?_,?_,g.dst,g.looks,g.apart,?_,?_,?_⟩
          ·rw [q _ n,p _ n];exact g.wr
          ·rw [p _ n];exact g.fp
          ·rw [q _ n];exact g.lo
          ·rw [p _ n];exact g.hi
          ·rw [w _ n,p _ n,w _ (by omega)];exact g.put
          ·rw [q _ n,p _ n,q _ (by omega)];exact g.heap
          ·rw [p _ n];exact g.ok
        ·intro hr;obtain ⟨S,V,W⟩:=q5 hr;refine ⟨by simp [S],?_,?_⟩
         ·rw [e,w _ (by omega)];exact V
         ·rw [e,q _ (by omega)];exact W
        ·intro v K;obtain ⟨x,B,b,S,V,W⟩:=q6 v K;have n:a.length+1≤a.length+1+m:=by omega
         refine ⟨x,by simpa using B,?_,?_,?_,?_⟩
         ·rw [e];exact ⟨P _ _ n b.tx,by rw [p _ n];exact b.ok,b.all,by simpa using b.after⟩
         ·rw [e,p _ n];exact S
         ·rw [e,w _ n];exact V
         ·rw [e,q _ n,p _ n];exact W
     |false=>
      rw [G,I] at c;simp only at c;cases X:Nat.beq (mask+1) (2^a.length)&&Fi (a++[{wr:=[],fp:=none,lo:=0,hi:=0,dst:=none,looks:=[],mask}]) a.length rest with
      |false=>rw [X] at c;cases c
      |true=>
       rw [X] at c;simp only [Option.some.injEq,Prod.mk.injEq] at c;obtain ⟨rfl,rfl,rfl⟩:=c;obtain ⟨c1,c2⟩:=An X
       have k:∀i x,a[i]?=some x→(fun i=>if i<a.length then a.getD i default else ({wr:=[],fp:=none,lo:=0,hi:=0,dst:=none,looks:=[],mask}:Rc)) i=x:=by
        intro i x B;have:=(List.getElem?_eq_some_iff.1 B).1;simp only [this,if_true];simp [B]
       have hR:(fun i=>if i<a.length then a.getD i default else ({wr:=[],fp:=none,lo:=0,hi:=0,dst:=none,looks:=[],mask}:Rc)) a.length={wr:=[],fp:=none,lo:=0,hi:=0,dst:=none,looks:=[],mask}:=if_neg (Nat.lt_irrefl _)
       generalize (fun i=>if i<a.length then a.getD i default else ({wr:=[],fp:=none,lo:=0,hi:=0,dst:=none,looks:=[],mask}:Rc))=R at k hR
       have D:=I6 k;refine ⟨fun _=>h,fun _=>tmps,R,fun _=>d,0,k,rfl,rfl,fun i hi=>absurd hi (Nat.not_lt_zero _),(fun K=>by cases K),fun v K=>?_⟩
       cases K;refine ⟨o,rfl,⟨⟨?_,z,N⟩,I,?_,a,rfl,?_,?_⟩,rfl,rfl,rfl⟩
       ·rw [Nat.add_zero,D,hR];exact s
       ·show (R a.length).mask+1=2^a.length;rw [hR];exact Ay c1
       ·rw [Nat.add_zero,D]
       ·rw [Nat.add_zero,hR];simpa using c2
end
end Go.AE
namespace Go.AE
variable [Gl:AH]
variable [U:Unk]
def ins (D:Nat→Bool) (j:Nat):Nat→Bool:=fun i=>if i=j then true else D i
def Cn (H:Nat→Aa) (R:Nat→Rc) (D:Nat→Bool):Nat→Nat→Option Ag
 |0,b=>(H 0).blk.get b
 |j+1,b=>if D j=true∧(b∈(R j).wr∨((R j).lo≤b∧b<(R j).hi)) then (H (j+1)).blk.get b else Cn H R D j b
def Tn (a:Nat→T AV) (R:Nat→Rc) (D:Nat→Bool):Nat→Tmp→Option AV
 |0,t=>(a 0).get t
 |j+1,t=>if D j=true∧(R j).dst=some t then (a (j+1)).get t else Tn a R D j t
structure Ca (E:Env) (callF:Ask→Aa→Option (Bool×AV×Aa)) (all:Array Oper) (nt:Nat) (H:Nat→Aa) (Tm:Nat→T AV) (R:Nat→Rc) (Dd:Nat→Did) (n:Nat):Prop where
 good:∀j,j<n→∃o,all[j]?=some o∧Good E callF all nt H Tm R Dd j o
 wf:WF (H 0)
section
variable {E:Env} {callF:Ask→Aa→Option (Bool×AV×Aa)} {all:Array Oper} {nt:Nat} {H:Nat→Aa} {Tm:Nat→T AV} {R:Nat→Rc} {Dd:Nat→Did} {n:Nat}
 (X:Ca E callF all nt H Tm R Dd n)
include X
theorem Ca.hi {j:Nat} (l:j<n):(H (j+1)).nx=(R j).hi:=by
 obtain ⟨o,_,g⟩:=X.good j l;rw [g.heap,g.hi];rfl
theorem Ca.lo {j:Nat} (l:j<n):(R j).lo=(H j).nx:=by
 obtain ⟨o,_,g⟩:=X.good j l;exact g.lo
theorem Ca.le {j:Nat} (l:j<n):(R j).lo≤(R j).hi:=by
 obtain ⟨o,_,g⟩:=X.good j l;rw [g.lo,g.hi];exact g.tx.nx
theorem Ca.mono {i:Nat}:∀{j:Nat},i≤j→j≤n→(H i).nx≤(H j).nx
 |0,l,_=>by rw [Nat.le_zero.1 l];exact Nat.le_refl _
 |j+1,l,r=>by
  rcases Nat.lt_or_ge i (j+1) with h|h
  ·have:=Ca.mono (i:=i) (j:=j) (by omega) (by omega)
   have t:=X.hi (j:=j) (by omega)
   have I:=X.lo (j:=j) (by omega)
   have J:=X.le (j:=j) (by omega)
   omega
  ·have:i=j+1:=by omega
   rw [this];exact Nat.le_refl _
theorem Ca.wfAt:∀{j:Nat},j≤n→WF (H j)
 |0,_=>X.wf
 |j+1,l=>by
  obtain ⟨o,_,g⟩:=X.good j (by omega)
  rw [g.heap];exact G0 (Ca.wfAt (j:=j) (by omega)) g.tx.nx
theorem Ca.bits {j:Nat} (I:j<n):∀{i:Nat},(R j).mask.testBit i=true→i<j:=by
 induction j using Nat.strongRecOn with
 |ind j ih=>
  intro i hi;obtain ⟨o,_,g⟩:=X.good j I;obtain ⟨e,J,hb,x,r,h⟩:=((DG g.tx.mask).2 i).1 hi
  have l:e.on<j:=by
   have:=(List.getElem?_eq_some_iff.1 r).1;simpa using this
  have t:x=R e.on:=by
   rw [List.getElem?_map,List.getElem?_range l] at r;simpa using r.symm
  rcases h with h|h
  ·rw [t] at h;have:=ih e.on l (by omega) h
   omega
  ·omega
theorem Ca.apart {i j:Nat} (l:i<j) (r:j<n) (t:(R j).mask.testBit i=false):(R i).Apart (R j):=by
 obtain ⟨o,_,g⟩:=X.good j r;rcases Ke g.apart i (R i) (by rw [List.getElem?_map,List.getElem?_range l];rfl) with h|h
 ·rw [Nat.zero_add,t] at h;cases h
 ·exact h
theorem Ca.stay {j:Nat} (r:j<n) {b:Nat} (l:b∉(R j).wr) (t:¬((R j).lo≤b∧b<(R j).hi)):(H (j+1)).blk.get b=(H j).blk.get b:=by
 obtain ⟨o,_,g⟩:=X.good j r;rw [g.wr] at l;rw [g.lo,g.hi] at t;rw [g.heap];exact CH g.tx.nx l (by omega)
theorem Ca.wr_lt {j:Nat} (r:j<n) {b:Nat} (l:b∈(R j).wr):b<(H j).nx:=by
 obtain ⟨o,_,g⟩:=X.good j r;rw [g.wr] at l;exact (Cp.1 l).2
theorem Ca.cn_text {D:Nat→Bool} {b:Nat}:∀{m:Nat},m≤n→(∀i,i<m→D i=false→b∉(R i).wr∧¬((R i).lo≤b∧b<(R i).hi))→Cn H R D m b=(H m).blk.get b
 |0,_,_=>rfl
 |m+1,t,h=>by
  simp only [Cn];by_cases l:D m=true∧(b∈(R m).wr∨((R m).lo≤b∧b<(R m).hi))
  ·rw [if_pos l]
  ·rw [if_neg l,Ca.cn_text (m:=m) (by omega) fun i hi=>h i (by omega)]
   have:b∉(R m).wr∧¬((R m).lo≤b∧b<(R m).hi):=by
    cases r:D m with
    |false=>exact h m (by omega) r
    |true=>exact ⟨fun q=>l ⟨r,.inl q⟩,fun q=>l ⟨r,.inr q⟩⟩
   exact (X.stay (by omega) this.1 this.2).symm
omit X in
theorem KR {D:Nat→Bool} {b j:Nat}:∀{m:Nat},j≤m→(∀i,j≤i→i<m→D i=true→b∉(R i).wr∧¬((R i).lo≤b∧b<(R i).hi))→Cn H R D m b=Cn H R D j b
 |0,hj,_=>by rw [Nat.le_zero.1 hj]
 |m+1,hj,h=>by
  rcases Nat.lt_or_ge j (m+1) with hlt|hge
  ·simp only [Cn];rw [if_neg,KR (by omega) fun i h1 h2=>h i h1 (by omega)]
   rintro ⟨hD,q⟩
   obtain ⟨a1,a2⟩:=h m (by omega) (by omega) hD
   exact q.elim a1 a2
  ·rw [show j=m+1 by omega]
omit X in
theorem XD {D:Nat→Bool} {b j:Nat} (hD:D j=false) (h1:b∉(R j).wr) (h2:¬((R j).lo≤b∧b<(R j).hi)):∀m,Cn H R (ins D j) m b=Cn H R D m b
 |0=>rfl
 |m+1=>by
  simp only [Cn];rw [XD hD h1 h2 m];by_cases e:m=j
  ·subst e;rw [if_neg (by rintro ⟨_,q⟩;exact q.elim h1 h2),if_neg (by rintro ⟨q,_⟩;rw [hD] at q;cases q)]
  ·simp [ins,e]
omit X in
theorem UJ {D:Nat→Bool} {b j m:Nat} (hjm:j<m) (h1:b∈(R j).wr∨((R j).lo≤b∧b<(R j).hi)) (h2:∀i,j<i→i<m→D i=true→b∉(R i).wr∧¬((R i).lo≤b∧b<(R i).hi)) :
  Cn H R (ins D j) m b=(H (j+1)).blk.get b:=by
 rw [KR (j:=j+1) hjm fun i a1 a2 hD=>h2 i a1 a2 (by simpa [ins,show i≠j by omega] using hD)]
 simp only [Cn];rw [if_pos ⟨by simp [ins],h1⟩]
theorem Ca.tput {j:Nat} (hj:j<n) {t:Tmp} (r:(R j).dst≠some t):(Tm (j+1)).get t=(Tm j).get t:=by
 obtain ⟨o,_,g⟩:=X.good j hj;have l:=g.put;rw [g.dst] at r;unfold El at l;split at l
 ·rename_i d I;split at l
  ·simp only [Option.some.injEq] at l;rw [←l,T.get_set,if_neg]
   rintro rfl;exact r I
  ·cases l
 ·simp only [Option.some.injEq] at l;rw [l]
theorem Ca.tn_text {D:Nat→Bool} {t:Tmp}:∀{m:Nat},m≤n→(∀i,i<m→D i=false→(R i).dst≠some t)→Tn Tm R D m t=(Tm m).get t
 |0,_,_=>rfl
 |m+1,r,h=>by
  simp only [Tn];by_cases l:D m=true∧(R m).dst=some t
  ·rw [if_pos l]
  ·rw [if_neg l,Ca.tn_text (m:=m) (by omega) fun i hi=>h i (by omega)]
   refine (X.tput (by omega) ?_).symm
   cases hD:D m with
   |false=>exact h m (by omega) hD
   |true=>exact fun q=>l ⟨hD,q⟩
omit X in
theorem K3 {D:Nat→Bool} {t:Tmp} {j:Nat}:∀{m:Nat},j≤m→(∀i,j≤i→i<m→D i=true→(R i).dst≠some t)→Tn Tm R D m t=Tn Tm R D j t
 |0,hj,_=>by rw [Nat.le_zero.1 hj]
 |m+1,hj,h=>by
  rcases Nat.lt_or_ge j (m+1) with hlt|hge
  ·simp only [Tn];rw [if_neg,K3 (by omega) fun i h1 h2=>h i h1 (by omega)]
   rintro ⟨hD,q⟩
   exact h m (by omega) (by omega) hD q
  ·rw [show j=m+1 by omega]
omit X in
theorem Vr {D:Nat→Bool} {t:Tmp} {j:Nat} (hD:D j=false) (h1:(R j).dst≠some t):∀m,Tn Tm R (ins D j) m t=Tn Tm R D m t
 |0=>rfl
 |m+1=>by
  simp only [Tn];rw [Vr hD h1 m];by_cases e:m=j
  ·subst e;rw [if_neg (by rintro ⟨_,q⟩;exact h1 q),if_neg (by rintro ⟨q,_⟩;rw [hD] at q;cases q)]
  ·simp [ins,e]
omit X in
theorem U1 {D:Nat→Bool} {t:Tmp} {j m:Nat} (hjm:j<m) (h1:(R j).dst=some t) (h2:∀i,j<i→i<m→D i=true→(R i).dst≠some t):Tn Tm R (ins D j) m t=(Tm (j+1)).get t:=by
 rw [K3 (j:=j+1) hjm fun i a1 a2 hD=>h2 i a1 a2 (by simpa [ins,show i≠j by omega] using hD)]
 simp only [Tn];rw [if_pos ⟨by simp [ins],h1⟩]
end
end Go.AE
namespace Go.AE
variable [Gl:AH]
variable [U:Unk]
theorem HR.weaken {ρ:Ren} {g t:Nat→Option Ag} {w:World} (h:HR ρ g w) (J:∀b x,ρ b≠none→t b=some x→g b=some x):HR ρ t w:=by
 refine ⟨h.lt,fun b base x r l=>h.blk b base x r (J b x (by rw [r];exact Option.some_ne_none _) l),fun b b' base base' ab r I h1 h2=>h.apart b b' base base' ab r I ?_ ?_,h.imm,fun k arr b base hk r hl=>h.off k arr b base hk r ?_,h.glob⟩
 ·cases l:t b with
  |none=>exact absurd l h1
  |some x=>rw [J b x (by rw [r];exact Option.some_ne_none _) l];exact Option.some_ne_none _
 ·cases l:t b' with
  |none=>exact absurd l h2
  |some x=>rw [J b' x (by rw [I];exact Option.some_ne_none _) l];exact Option.some_ne_none _
 ·cases l:t b with
  |none=>exact absurd l hl
  |some x=>rw [J b x (by rw [r];exact Option.some_ne_none _) l];exact Option.some_ne_none _
structure Inv (nt:Nat) (H:Nat→Aa) (Tm:Nat→T AV) (R:Nat→Rc) (n M:Nat) (ρ0:Ren) (w0:World) (D:Nat→Bool) (ρ:Ren) (tm:Array Value) (w:World):Prop where
 sub:∀j,D j=true→j<n
 closed:∀j,D j=true→∀i,(R j).mask.testBit i=true→D i=true
 size:tm.size=nt
 tmp:∀t x,Tn Tm R D n t=some x→VR ρ x (tm.getD t undef)
 heap:HR ρ (Cn H R D n) w
 free:∀b,(H 0).nx≤b→b<M→ρ b≠none→∃j,D j=true∧(R j).lo≤b∧b<(R j).hi
 le:ρ0.le ρ
 calm:GH w0 w
 new:∀b base,ρ b=some base→ρ0 b=some base∨((H 0).nx≤b∧b<(H n).nx∧(w0.heap.size≤base.cb∨∃b0 base0,ρ0 b0=some base0∧(H 0).blk.get b0≠none∧base0.cb=base.cb))
 kept:∀k,k<w0.heap.size→(∀b base,ρ0 b=some base→(H 0).blk.get b≠none→base.cb≠k)→w.heap[k]?=w0.heap[k]?
 imm:∀k arr,ρ.imm k=some arr→ρ0.imm k=some arr∨w0.heap.size≤k∨∃b0 base0,ρ0 b0=some base0∧(H 0).blk.get b0≠none∧base0.cb=k
section
variable {E:Env} {callF:Ask→Aa→Option (Bool×AV×Aa)} {all:Array Oper} {nt:Nat} {H:Nat→Aa} {Tm:Nat→T AV} {R:Nat→Rc} {Dd:Nat→Did} {n M:Nat}
 {ρ0 ρ:Ren} {w0 w:World} {tm:Array Value} {D:Nat→Bool} (X:Ca E callF all nt H Tm R Dd n)
include X
theorem Ca.live {b:Nat} (l:b<(H 0).nx):∀{j:Nat},j≤n→(H j).blk.get b≠none→(H 0).blk.get b≠none
 |0,_,h=>h
 |j+1,r,h=>by
  obtain ⟨o,_,g⟩:=X.good j (by omega)
  rw [g.heap] at h;have:=X.mono (i:=0) (j:=j) (by omega) (by omega)
  rcases GE (X.wfAt (by omega)) g.tx.nx h with h|h
  ·exact Ca.live l (j:=j) (by omega) h
  ·omega
theorem Ca.cn_live {b:Nat} (l:b<(H 0).nx):∀{m:Nat},m≤n→Cn H R D m b≠none→(H 0).blk.get b≠none
 |0,_,h=>h
 |m+1,r,h=>by
  simp only [Cn] at h;split at h
  ·exact X.live l (by omega) h
  ·exact Ca.cn_live l (m:=m) (by omega) h
theorem Ca.disj {i j b:Nat} (hi:i<n) (l:j<n) (r:(R i).lo≤b∧b<(R i).hi) (t:(R j).lo≤b∧b<(R j).hi):i=j:=by
 rcases Nat.lt_trichotomy i j with h|h|h
 ·have:=X.mono (i:=i+1) (j:=j) (by omega) (by omega)
  have a:=X.hi hi;have c:=X.lo l;omega
 ·exact h
 ·have:=X.mono (i:=j+1) (j:=i) (by omega) (by omega)
  have a:=X.hi l;have c:=X.lo hi;omega
theorem Ca.agree (I:Inv nt H Tm R n M ρ0 w0 D ρ tm w) (hM:(H n).nx≤M) {j:Nat} (hj:j<n) (hD:D j=false) (ab:∀i,(R j).mask.testBit i=true→D i=true) {b:Nat} {x:Ag} (hb:ρ b≠none)
  (hx:(part (H j) (Dd j).fp).blk.get b=some x):Cn H R D n b=some x:=by
 obtain ⟨o,ho,g⟩:=X.good j hj
 have J:(H j).blk.get b=some x∧(∀l,(R j).fp=some l→b∈l):=by
  rw [g.fp];cases r:(Dd j).fp with
  |none=>rw [r] at hx;exact ⟨hx,(fun l hl=>by cases hl)⟩
  |some bd=>
   rw [r] at hx;rcases Ds (H j) bd b with q|⟨q1,q2⟩
   ·simp only [part] at hx;rw [q] at hx;cases hx
   ·exact ⟨q2▸hx,fun l hl=>by cases hl;exact q1⟩
 have bn:b<(H j).nx:=by
  rcases Nat.lt_or_ge b (H j).nx with h|h
  ·exact h
  ·rw [X.wfAt (by omega) b h] at J;cases J.1
 have an:∀i,i<n→i≠j→(i<j→(R j).mask.testBit i=false)→(j<i→(R i).mask.testBit j=false)→b∉(R i).wr:=by
  intro i hi ar h1 h2 hm;rcases Nat.lt_or_ge i j with h|h
  ·have a:=X.apart h hj (h1 h);cases r:(R j).fp with
   |none=>rw [a.fp1n r] at hm;cases hm
   |some l=>exact a.fp1 b hm l r (J.2 l r)
  ·have a:=X.apart (show j<i by omega) hi (h2 (by omega))
   cases r:(R j).fp with
   |none=>rw [a.fp2n r] at hm;cases hm
   |some l=>exact a.fp2 b hm l r (J.2 l r)
 have hC:Cn H R D n b=Cn H R D j b:=by
  refine KR (by omega) fun i h1 h2 t=>?_
  have ar:i≠j:=by rintro rfl;rw [hD] at t;cases t
  refine ⟨an i h2 ar (fun h=>by omega) fun h=>?_,?_⟩
  ·cases hb:(R i).mask.testBit j with
   |false=>rfl
   |true=>rw [I.closed i t j hb] at hD;cases hD
  ·have:=X.mono (i:=j) (j:=i) h1 (by omega)
   have:=X.lo h2;omega
 rw [hC,X.cn_text (by omega) fun i hi t=>?_,J.1]
 refine ⟨an i (by omega) (by omega) (fun h=>?_) (fun h=>by omega),fun av=>?_⟩
 ·cases hb:(R j).mask.testBit i with
  |false=>rfl
  |true=>rw [ab i hb] at t;cases t
 ·have bs:=X.lo (show i<n by omega)
  have h0:=X.mono (i:=0) (j:=i) (by omega) (by omega)
  have h1:=X.mono (i:=j) (j:=n) (by omega) (by omega)
  obtain ⟨j',al,bm⟩:=I.free b (by omega) (by omega) hb
  have:=X.disj (show i<n by omega) (I.sub j' al) av bm
  subst this;rw [t] at al;cases al
theorem Ca.tagree (I:Inv nt H Tm R n M ρ0 w0 D ρ tm w) {j:Nat} (hj:j<n) (J:D j=false) (r:∀i,(R j).mask.testBit i=true→D i=true):TR ρ nt (AY (Tm j) (R j).looks) tm:=by
 refine ⟨I.size,fun t x hx=>?_⟩
 obtain ⟨hl,y,hy,rfl⟩:=Dv _ _ _ _ hx;refine N4 (I.tmp t y ?_)
 have hT:Tn Tm R D n t=Tn Tm R D j t:=by
  refine K3 (by omega) fun i h1 h2 l hd=>?_
  have ab:i≠j:=by rintro rfl;rw [J] at l;cases l
  have a:=X.apart (show j<i by omega) h2 (by
   cases hb:(R i).mask.testBit j with
   |false=>rfl
   |true=>rw [I.closed i l j hb] at J;cases J)
  exact a.look2 t hd hl
 rw [hT,X.tn_text (by omega) fun i hi l hd=>?_,hy]
 have a:=X.apart hi hj (by
  cases hb:(R j).mask.testBit i with
  |false=>rfl
  |true=>rw [r i hb] at l;cases l)
 exact a.look1 t hd hl
end
end Go.AE
namespace Go.AE
variable [Gl:AH]
variable [U:Unk]
section
variable {E:Env} {callF:Ask→Aa→Option (Bool×AV×Aa)} {all:Array Oper} {nt:Nat} {H:Nat→Aa} {Tm:Nat→T AV} {R:Nat→Rc} {Dd:Nat→Did} {n M:Nat}
 {ρ0 ρ σ:Ren} {w0 w w':World} {tm:Array Value} {D:Nat→Bool} (X:Ca E callF all nt H Tm R Dd n)
include X
theorem Ca.after (I:Inv nt H Tm R n M ρ0 w0 D ρ tm w) (hM:(H n).nx≤M) {j:Nat} (hj:j<n) (hD:D j=false) (b2:∀i,(R j).mask.testBit i=true→D i=true)
  (q3:HR σ (Dd j).g.blk.get w') (q4:Ext ρ σ (part (H j) (Dd j).fp) (Dd j).g w w'):HR σ (Cn H R (ins D j) n) w':=by
 obtain ⟨o,ho,g⟩:=X.good j hj;have av:(part (H j) (Dd j).fp).nx=(H j).nx:=by cases (Dd j).fp<;>rfl
 have cd:(part (H j) (Dd j).fp).log=[]:=by cases (Dd j).fp<;>rfl
 obtain ⟨l,ch,ec⟩:=q4.log;rw [cd,List.append_nil] at ch;have b5:∀b x,ρ b≠none→(part (H j) (Dd j).fp).blk.get b=some x→Cn H R D n b=some x:=fun b x J hx=>X.agree I hM hj hD b2 J hx
 have b6:∀b,(b∈(R j).wr∨((R j).lo≤b∧b<(R j).hi))→∀i,j<i→i<n→D i=true→b∉(R i).wr∧¬((R i).lo≤b∧b<(R i).hi):=by
  intro b J i hi ck ed
  have a:=X.apart hi ck (by
   cases J:(R i).mask.testBit j with
   |false=>rfl
   |true=>rw [I.closed i ed j J] at hD;cases hD)
  have h1:=X.mono (i:=j+1) (j:=i) (by omega) (by omega)
  have h2:=X.hi hj;have h3:=X.lo ck;have h4:=X.lo hj;have h5:=X.le hj;rcases J with J|J
  ·have:=X.wr_lt hj J;exact ⟨a.wr b J,fun h=>by omega⟩
  ·exact ⟨fun h=>a.out b h J,fun h=>by omega⟩
 have an:∀b x,Cn H R (ins D j) n b=some x→((b∈(R j).wr∨((R j).lo≤b∧b<(R j).hi))∧(Dd j).g.blk.get b=some x)∨((b∉(R j).wr∧¬((R j).lo≤b∧b<(R j).hi))∧Cn H R D n b=some x):=by
  intro b x hx;by_cases J:b∈(R j).wr∨((R j).lo≤b∧b<(R j).hi)
  ·refine .inl ⟨J,?_⟩;rw [UJ hj J (b6 b J),g.heap] at hx;rcases J with J|J
   ·rw [g.wr] at J;rcases GS J with q|⟨_,q⟩
    ·rw [q] at hx;cases hx
    ·rw [←q];exact hx
   ·rw [g.lo,g.hi] at J;rw [Hu (X.wfAt (by omega)) g.tx.nx J.1 J.2] at hx
    exact hx
  ·have cm:b∉(R j).wr:=fun q=>J (.inl q)
   have cv:¬((R j).lo≤b∧b<(R j).hi):=fun q=>J (.inr q)
   rw [XD hD cm cv] at hx;exact .inr ⟨⟨cm,cv⟩,hx⟩
 have al:∀b base x,(b∉(R j).wr∧¬((R j).lo≤b∧b<(R j).hi))→σ b=some base→Cn H R D n b=some x→ρ b=some base∧((part (H j) (Dd j).fp).blk.get b≠none→(Dd j).g.blk.get b=some x):=by
  intro b base x J hs hx
  have ab:ρ b=some base:=by
   rcases q4.new b base hs with h|⟨h1,h2,_⟩
   ·exact h
   ·rw [av] at h1;exact absurd ⟨g.lo▸h1,g.hi▸h2⟩ J.2
  refine ⟨ab,fun hp=>?_⟩
  cases hy:(part (H j) (Dd j).fp).blk.get b with
  |none=>exact absurd hy hp
  |some y=>
   have:=b5 b y (by rw [ab];exact Option.some_ne_none _) hy
   rw [hx] at this;cases this
   have dd:b<(H j).nx:=by
    rcases Nat.lt_or_ge b (H j).nx with h|h
    ·exact h
    ·have:=KH (X.wfAt (j:=j) (by omega)) (Dd j).fp b (by rw [av];exact h)
     rw [this] at hy;cases hy
   rw [ec b ?_ (.inl (by rw [av];exact dd)),hy]
   intro hm;refine J.1 ?_;rw [g.wr,Cp,ch];exact ⟨hm,dd⟩
 refine ⟨q3.lt,fun b base x hs hx=>?_,fun b b' base r ar hs bd h1 h2=>?_,q3.imm,fun k arr b base hk hs hl=>?_,q3.glob⟩
 ·rcases an b x hx with ⟨_,hg⟩|⟨J,hc⟩
  ·exact q3.blk b base x hs hg
  ·obtain ⟨ab,bm⟩:=al b base x J hs hc;by_cases hp:(part (H j) (Dd j).fp).blk.get b=none
   ·have hk:=q4.kept base.cb (I.heap.lt b base ab) (fun b0 t bn bs=>by
     have ar:b0≠b:=by rintro rfl;exact bs hp
     cases hy:(part (H j) (Dd j).fp).blk.get b0 with
     |none=>exact absurd hy bs
     |some y=>
      have:=b5 b0 y (by rw [bn];exact Option.some_ne_none _) hy
      exact I.heap.apart b0 b t base ar bn ab (by rw [this];exact Option.some_ne_none _) (by rw [hc];exact Option.some_ne_none _))
    rw [hk];exact (I.heap.blk b base x ab hc).mono q4.le
   ·exact q3.blk b base x hs (bm hp)
 ·have key:∀b b' base r,b≠b'→σ b=some base→σ b'=some r→Cn H R (ins D j) n b≠none→Cn H R (ins D j) n b'≠none→(Dd j).g.blk.get b=none→base.cb≠r.cb:=by
   intro b b' base r ar hs bd h1 h2 df;cases hx:Cn H R (ins D j) n b with
   |none=>exact absurd hx h1
   |some x=>
    cases ds:Cn H R (ins D j) n b' with
    |none=>exact absurd ds h2
    |some x'=>
     rcases an b x hx with ⟨_,hg⟩|⟨J,hc⟩
     ·rw [df] at hg;cases hg
     ·obtain ⟨ab,bm⟩:=al b base x J hs hc
      have hp:(part (H j) (Dd j).fp).blk.get b=none:=by
       cases hp:(part (H j) (Dd j).fp).blk.get b with
       |none=>rfl
       |some y=>have:=bm (by rw [hp];exact Option.some_ne_none _);rw [df] at this;cases this
      have bv:Cn H R D n b≠none:=by rw [hc];exact Option.some_ne_none _
      have du:∀b0 t,ρ b0=some t→(part (H j) (Dd j).fp).blk.get b0≠none→base.cb≠t.cb:=by
       intro b0 t bn bs;have b1:b≠b0:=by rintro rfl;exact bs hp
       cases hy:(part (H j) (Dd j).fp).blk.get b0 with
       |none=>exact absurd hy bs
       |some y=>
        have:=b5 b0 y (by rw [bn];exact Option.some_ne_none _) hy
        exact I.heap.apart b b0 base t b1 ab bn bv (by rw [this];exact Option.some_ne_none _)
      rcases an b' x' ds with ⟨dv,cc⟩|⟨dv,ea⟩
      ·rcases q4.new b' r bd with h|⟨_,_,h|⟨b0,t,e1,e2,e3⟩⟩
       ·rcases q4.live b' (by rw [cc];exact Option.some_ne_none _) with hl|⟨hl,ee⟩
        ·exact du b' r h hl
        ·
         rw [av] at hl;have eg:=X.lo hj;have h0:=X.mono (i:=0) (j:=j) (by omega) (by omega)
         have h1:=X.mono (i:=j+1) (j:=n) (by omega) (by omega)
         have h2:=X.hi hj;rw [g.hi] at h2;obtain ⟨j',cf,ef⟩:=I.free b' (by omega) (by omega) (by rw [h];exact Option.some_ne_none _)
         have:=X.disj hj (I.sub j' cf) ⟨by omega,by rw [g.hi];exact ee⟩ ef
         subst this;rw [hD] at cf;cases cf
       ·have:=I.heap.lt b base ab;omega
       ·rw [←e3];exact du b0 t e1 e2
      ·obtain ⟨eb,_⟩:=al b' r x' dv bd ea;exact I.heap.apart b b' base r ar ab eb bv (by rw [ea];exact Option.some_ne_none _)
  by_cases hg:(Dd j).g.blk.get b=none
  ·exact key b b' base r ar hs bd h1 h2 hg
  ·by_cases cc:(Dd j).g.blk.get b'=none
   ·exact fun e=>key b' b r base (Ne.symm ar) bd hs h2 h1 cc e.symm
   ·exact q3.apart b b' base r ar hs bd hg cc
 ·cases hx:Cn H R (ins D j) n b with
  |none=>exact absurd hx hl
  |some x=>
   rcases an b x hx with ⟨_,hg⟩|⟨J,hc⟩
   ·exact q3.off k arr b base hk hs (by rw [hg];exact Option.some_ne_none _)
   ·obtain ⟨ab,bm⟩:=al b base x J hs hc;have bv:Cn H R D n b≠none:=by rw [hc];exact Option.some_ne_none _
    by_cases hp:(part (H j) (Dd j).fp).blk.get b=none
    ·rcases q4.imm k arr hk with h|h|⟨b0,t,e1,e2,e3⟩
     ·exact I.heap.off k arr b base h ab bv
     ·have:=I.heap.lt b base ab;omega
     ·have b1:b≠b0:=by rintro rfl;exact e2 hp
      cases hy:(part (H j) (Dd j).fp).blk.get b0 with
      |none=>exact absurd hy e2
      |some y=>
       have:=b5 b0 y (by rw [e1];exact Option.some_ne_none _) hy
       rw [←e3];exact I.heap.apart b b0 base t b1 ab e1 bv (by rw [this];exact Option.some_ne_none _)
    ·exact q3.off k arr b base hk hs (by rw [bm hp];exact Option.some_ne_none _)
theorem Ca.step (I:Inv nt H Tm R n M ρ0 w0 D ρ tm w) (hM:(H n).nx≤M) (ar:AG ρ0 (H 0).nx M) {j:Nat} (hj:j<n) (hD:D j=false) (J:∀i,(R j).mask.testBit i=true→D i=true) {v':Value}
  (q2:VR σ (Dd j).v v') (q3:HR σ (Dd j).g.blk.get w') (q4:Ext ρ σ (part (H j) (Dd j).fp) (Dd j).g w w'):Inv nt H Tm R n M ρ0 w0 (ins D j) σ (II tm (R j).dst v') w':=by
 obtain ⟨o,ho,g⟩:=X.good j hj;have bd:(part (H j) (Dd j).fp).nx=(H j).nx:=by cases (Dd j).fp<;>rfl
 have b6:=X.lo hj;have bn:=X.hi hj;have cc:=X.mono (i:=0) (j:=j) (by omega) (by omega)
 have cd:=X.mono (i:=j+1) (j:=n) (by omega) (by omega)
 have ab:∀b0 l,ρ b0=some l→(part (H j) (Dd j).fp).blk.get b0≠none→w0.heap.size≤l.cb∨∃b1 r,ρ0 b1=some r∧(H 0).blk.get b1≠none∧r.cb=l.cb:=by
  intro b0 l al av;cases hy:(part (H j) (Dd j).fp).blk.get b0 with
  |none=>exact absurd hy av
  |some y=>
   have hc:=X.agree I hM hj hD J (by rw [al];exact Option.some_ne_none _) hy
   rcases I.new b0 l al with h|⟨_,_,h⟩
   ·right;refine ⟨b0,l,h,?_,rfl⟩
    have an:b0<(H 0).nx:=by
     rcases Nat.lt_or_ge b0 (H 0).nx with q|q
     ·exact q
     ·have an:b0<(H j).nx:=by
       rcases Nat.lt_or_ge b0 (H j).nx with h|h
       ·exact h
       ·have:=KH (X.wfAt (j:=j) (by omega)) (Dd j).fp b0 (by rw [bd];exact h)
        rw [this] at hy;cases hy
      have:=X.le hj;rw [ar b0 q (by omega)] at h;cases h
    exact X.cn_live (D:=D) an (Nat.le_refl n) (by rw [hc];exact Option.some_ne_none _)
   ·exact h
 refine ⟨?_,?_,?_,?_,X.after I hM hj hD J q3 q4,?_,I.le.trans q4.le,I.calm.trans q4.calm,?_,?_,?_⟩
 ·intro i hi;by_cases e:i=j
  ·omega
  ·exact I.sub i (by simpa [ins,e] using hi)
 ·intro i hi k hk;by_cases e:i=j
  ·subst e;have:=J k hk;by_cases e2:k=i
   ·simp [ins,e2]
   ·simpa [ins,e2] using this
  ·have:=I.closed i (by simpa [ins,e] using hi) k hk
   by_cases e2:k=j
   ·simp [ins,e2]
   ·simpa [ins,e2] using this
 ·unfold II;split<;>simp [I.size]
 ·intro t x hx;by_cases hd:(R j).dst=some t
  ·rw [U1 hj hd (fun i h1 h2 bs bv=>by
    have a:=X.apart h1 h2 (by
     cases hb:(R i).mask.testBit j with
     |false=>rfl
     |true=>rw [I.closed i bs j hb] at hD;cases hD)
    exact a.dst t hd bv)] at hx
   have hp:=g.put;rw [g.dst] at hd;rw [hd] at hp;simp only [El] at hp;cases hb:Nat.blt t nt with
   |false=>rw [hb] at hp;cases hp
   |true=>
    rw [hb] at hp;simp only [Option.some.injEq] at hp;rw [←hp,T.get_set,if_pos rfl] at hx;cases hx;have an:t<tm.size:=by rw [I.size];simpa [Nat.blt_eq] using hb
    rw [g.dst,hd];simpa [II,Array.getD_eq_getD_getElem?,an] using q2
  ·rw [Vr hD hd] at hx;have:=(I.tmp t x hx).mono q4.le;unfold II;split
   ·rename_i d b2;have b5:d≠t:=by rintro rfl;exact hd b2
    simpa [Array.getD_eq_getD_getElem?,Array.getElem?_setIfInBounds_ne b5] using this
   ·exact this
 ·intro b h1 h2 hb;cases hs:σ b with
  |none=>exact absurd hs hb
  |some base=>
   rcases q4.new b base hs with h|⟨a1,a2,_⟩
   ·obtain ⟨i,hi,hr⟩:=I.free b h1 h2 (by rw [h];exact Option.some_ne_none _)
    refine ⟨i,?_,hr⟩;by_cases e:i=j
    ·simp [ins,e]
    ·simpa [ins,e] using hi
   ·exact ⟨j,by simp [ins],by omega,by rw [g.hi];exact a2⟩
 ·intro b base hs;rcases q4.new b base hs with h|⟨a1,a2,a3⟩
  ·exact I.new b base h
  ·right;rw [g.hi] at bn;refine ⟨by omega,by omega,?_⟩
   rcases a3 with a3|⟨b0,l,e1,e2,e3⟩
   ·left;have:=I.calm.size;omega
   ·rw [←e3];exact ab b0 l e1 e2
 ·intro k hk bm
  rw [q4.kept k (by have:=I.calm.size;omega) (fun b0 l al av=>by
   rcases ab b0 l al av with h|⟨b1,r,e1,e2,e3⟩
   ·omega
   ·rw [←e3];exact bm b1 r e1 e2)]
  exact I.kept k hk bm
 ·intro k arr hk;rcases q4.imm k arr hk with h|h|⟨b0,l,e1,e2,e3⟩
  ·exact I.imm k arr h
  ·right;left;have:=I.calm.size;omega
  ·right;rcases ab b0 l e1 e2 with h|⟨b1,r,f1,f2,f3⟩
   ·left;omega
   ·right;exact ⟨b1,r,f1,f2,f3.trans e3⟩
end
end Go.AE
namespace Go.AE
variable [Gl:AH]
variable [U:Unk]
theorem JX {j:Nat}:∀{rest:List Oper} {recs:List Rc},(∀i x,i<j→recs[i]?=some x→x.mask.testBit j=false)→j<recs.length→Fi recs j rest=true→∀o∈rest,∃e∈o.after.toList,Region.binds .any e=true∧j≤e.on
 |[],recs,_,_,_,o,n=>by cases n
 |o::rest,recs,m,q,h,x,c=>by
  simp only [Fi] at h;cases d:BJ recs o.after.toList with
  |none=>rw [d] at h;cases h
  |some mask=>
   rw [d] at h;simp only [Vh] at h;cases f:mask.testBit j with
   |false=>rw [f] at h;cases h
   |true=>
    rw [f] at h;rcases List.mem_cons.1 c with rfl|c
    ·obtain ⟨e,p,g,y,b,a⟩:=((DG d).2 j).1 f;refine ⟨e,p,g,?_⟩;rcases Nat.lt_or_ge e.on j with k|l
     ·rcases a with a|a
      ·rw [m e.on y k b] at a;cases a
      ·omega
     ·exact l
    ·refine JX (recs:=recs++[{wr:=[],fp:=none,lo:=0,hi:=0,dst:=none,looks:=[],mask}]) (fun i y hi b=>?_) (by simp;omega) h x c
     rw [List.getElem?_append_left (by omega)] at b
     exact m i y hi b
theorem Sl {E:Env} {b:Ask→Aa→Option (Bool×AV×Aa)} {all:Array Oper} {o:Oper} {t:T AV} {h:Aa} {d:Did} (a:Da E b all o t h=some d) (c:d.ok=false):d.fp=none:=by
 unfold Da at a;split at a
 ·cases a
 ·cases a;cases c
 ·split at a
  ·simp only at a;split at a
   ·cases a;cases c
   ·cases a
  ·split at a
   ·split at a
    ·cases a;rfl
    ·cases a
   ·split at a
    ·cases a;rfl
    ·cases a
   ·cases a;rfl
   ·cases a
section
variable {E:Env} {callF:Ask→Aa→Option (Bool×AV×Aa)} {all:Array Oper} {nt:Nat} {H:Nat→Aa} {Tm:Nat→T AV} {R:Nat→Rc} {Dd:Nat→Did} {n M:Nat}
 {ρ0 ρ σ:Ren} {w0 w w':World} {tm:Array Value} {D:Nat→Bool} (X:Ca E callF all nt H Tm R Dd n)
include X
omit X in
theorem kG (ht:TR ρ0 nt (Tm 0) tm) (hr:HR ρ0 (H 0).blk.get w0) (hfree:AG ρ0 (H 0).nx M) (hD:∀i,D i=false):Inv nt H Tm R n M ρ0 w0 D ρ0 tm w0:=by
 have hno:∀i,D i≠true:=fun i h=>by rw [hD i] at h;cases h
 refine ⟨fun j h=>absurd h (hno j),fun j h=>absurd h (hno j),ht.size,fun t x hx=>ht.get t x ?_,hr.weaken fun b x hb hx=>?_,fun b h1 h2 hb=>absurd (hfree b h1 h2) hb,Ren.le_refl _,GH.refl _,fun b base h=>.inl h,fun k hk hno=>rfl,fun k arr h=>.inl h⟩
 ·rw [K3 (j:=0) (Nat.zero_le _) fun i _ _ h=>absurd h (hno i)] at hx;exact hx
 ·rw [KR (j:=0) (Nat.zero_le _) fun i _ _ h=>absurd h (hno i)] at hx;exact hx
theorem Ca.logs:∀{j:Nat},j≤n→∃l,(H j).log=l++(H 0).log∧∀b,b∉l→(b<(H 0).nx∨(H j).nx≤b)→(H j).blk.get b=(H 0).blk.get b
 |0,_=>⟨[],rfl,fun _ _ _=>rfl⟩
 |j+1,I=>by
  obtain ⟨l,h1,h2⟩:=Ca.logs (j:=j) (by omega)
  obtain ⟨o,_,g⟩:=X.good j (by omega)
  have J:=X.mono (i:=0) (j:=j) (by omega) (by omega)
  have hl:=X.lo (show j<n by omega)
  have hh:=X.hi (show j<n by omega)
  have r:=X.le (show j<n by omega)
  refine ⟨(R j).wr++l,?_,fun b hb ho=>?_⟩
  ·rw [g.heap,g.wr,List.append_assoc,←h1];rfl
  ·simp only [List.mem_append,not_or] at hb;rw [X.stay (by omega) hb.1 (by omega),h2 b hb.2 (by omega)]
theorem Ca.final (I:Inv nt H Tm R n M ρ0 w0 D ρ tm w) (hD:∀i,i<n→D i=true):TR ρ nt (Tm n) tm∧HR ρ (H n).blk.get w∧Ext ρ0 ρ (H 0) (H n) w0 w:=by
 have hno:∀i,i<n→D i≠false:=fun i hi h=>by rw [hD i hi] at h;cases h
 refine ⟨⟨I.size,fun t x hx=>I.tmp t x ?_⟩,I.heap.weaken fun b x hb hx=>?_,⟨I.le,X.mono (Nat.zero_le _) (Nat.le_refl _),I.new,I.calm,I.kept,X.logs (Nat.le_refl _),fun b hb=>?_,I.imm⟩⟩
 ·rw [X.tn_text (Nat.le_refl _) fun i hi h=>absurd h (hno i hi)];exact hx
 ·rw [X.cn_text (Nat.le_refl _) fun i hi h=>absurd h (hno i hi)];exact hx
 ·rcases Nat.lt_or_ge b (H 0).nx with h|h
  ·exact .inl (X.live h (Nat.le_refl _) hb)
  ·refine .inr ⟨h,?_⟩;rcases Nat.lt_or_ge b (H n).nx with h'|h'
   ·exact h'
   ·exact absurd (X.wfAt (Nat.le_refl _) b h') hb
omit X in
theorem QA {j:Nat} {o:Oper} (t:Tx E callF all H Tm R Dd j o) {e:Edge} (he:e∈o.after.toList) (hb:Region.binds .any e=true):e.on<j:=by
 obtain ⟨x,hx⟩:=(DG t.mask).1 e he hb;have:=(List.getElem?_eq_some_iff.1 hx).1;simpa using this
omit X in
theorem TE {j:Nat} {o:Oper} (t:Tx E callF all H Tm R Dd j o) (hcl:∀j,D j=true→∀i,(R j).mask.testBit i=true→D i=true)
  (hon:∀e∈o.after.toList,Region.binds .any e=true→D e.on=true) {i:Nat} (hi:(R j).mask.testBit i=true):D i=true:=by
 obtain ⟨e,he,hb,x,hx,h⟩:=((DG t.mask).2 i).1 hi;have hlt:=QA t he hb;rw [List.getElem?_map,List.getElem?_range hlt] at hx;simp only [Option.map_some,Option.some.injEq] at hx;subst hx;rcases h with h|h
 ·exact hcl e.on (hon e he hb) i h
 ·rw [h];exact hon e he hb
end
end Go.AE
namespace Go.AE
variable [Gl:AH]
variable [U:Unk]
theorem NF:∀{l:List Bool} {i:Nat},l[i]?=some false→(l.set i true).count true=l.count true+1
 |[],i,h=>by cases h
 |b::l,0,h=>by
  simp only [List.getElem?_cons_zero,Option.some.injEq] at h;subst h;simp
 |b::l,i+1,h=>by
  have:=NF (l:=l) (i:=i) (by simpa using h)
  simp only [List.set_cons_succ,List.count_cons,this];omega
theorem Wj {a:Array Bool} {i:Nat} (hi:i<a.size):(fun j=>(a.setIfInBounds i true).getD j false)=ins (fun j=>a.getD j false) i:=by
 funext j
 simp only [ins,Array.getD_eq_getD_getElem?];by_cases e:j=i
 ·subst e;simp [hi]
 ·rw [if_neg e,Array.getElem?_setIfInBounds_ne (Ne.symm e)]
section
variable {E:Env} (hE:OK E) {callF:Ask→Aa→Option (Bool×AV×Aa)} (hF:Db E callF) {all:Array Oper} {nt:Nat} {H:Nat→Aa} {Tm:Nat→T AV} {R:Nat→Rc} {Dd:Nat→Did} {n M:Nat}
 {ρ0:Ren} {w0:World} {k:List Item} {cs:List Frame} (X:Ca E callF all nt H Tm R Dd n)
include hE hF X
theorem Ca.sched (hM:(H n).nx≤M) (b5:AG ρ0 (H 0).nx M) (ef:n≤all.size)
  (bs:n<all.size→∃o,all[n]?=some o∧Bad E callF all H Tm R Dd n o (all.toList.drop (n+1))) :
  ∀(ab t:Nat) (J:Array Bool) (ρ:Ren) (w:World) (c:Frame),c.mode=.run→c.todo=.inRegion all (Region.linearise.go .any all ab t J [])::k→J.size=all.size→
   all.size≤ab+J.toList.count true→Inv nt H Tm R n M ρ0 w0 (fun i=>J.getD i false) ρ c.tmps w→
   ∃rest σ av w' D',Inv nt H Tm R n M ρ0 w0 D' σ av w'∧(∀i,i<n→D' i=true)∧Steps E.P (lone c cs w) (lone {c with tmps:=av,todo:=.inRegion all rest::k} cs w')∧
    (n=all.size→rest=[])∧(n<all.size→∃r,rest=n::r):=by
 have ea:∀j,j<all.size→j≤n→∃o,all[j]?=some o∧Tx E callF all H Tm R Dd j o:=by
  intro j hj eg;rcases Nat.lt_or_ge j n with h|h
  ·obtain ⟨o,h1,h2⟩:=X.good j h;exact ⟨o,h1,h2.tx⟩
  ·have:j=n:=by omega
   subst this;obtain ⟨o,h1,h2⟩:=bs hj;exact ⟨o,h1,h2.tx⟩
 have b1:∀(J:Array Bool) (ρ:Ren) (w:World) (c:Frame),J.size=all.size→c.todo=.inRegion all []::k→Inv nt H Tm R n M ρ0 w0 (fun i=>J.getD i false) ρ c.tmps w→(∀i,i<all.size→J.getD i false=true)→
   ∃rest σ av w' D',Inv nt H Tm R n M ρ0 w0 D' σ av w'∧(∀i,i<n→D' i=true)∧Steps E.P (lone c cs w) (lone {c with tmps:=av,todo:=.inRegion all rest::k} cs w')∧
    (n=all.size→rest=[])∧(n<all.size→∃r,rest=n::r):=by
  intro J ρ w c bm ht I b2;refine ⟨[],ρ,c.tmps,w,_,I,fun i hi=>b2 i (by omega),?_,fun _=>rfl,fun h=>?_⟩
  ·rw [←ht];exact Steps.refl _ _
  ·exact absurd (I.sub n (b2 n h)) (Nat.lt_irrefl _)
 intro ab
 induction ab with
 |zero=>
  intro t J ρ w c hm ht bm cf I;refine b1 J ρ w c bm (by simpa [Region.linearise.go] using ht) I fun i hi=>?_
  have ch:J.toList.count true=J.toList.length:=by
   have:=List.count_le_length (a:=true) (l:=J.toList);have e:J.toList.length=J.size:=Array.length_toList;omega
  have:=(List.count_eq_length.1 ch) (J[i]'(by omega)) (by simp)
  rw [Array.getD_eq_getD_getElem?];simp [bm,hi,←this]
 |succ ab ih=>
  intro t J ρ w c hm ht bm cf I
  have ck:Region.linearise.go .any all (ab+1) t J []=(match (Region.ready .any all J)[t%(Region.ready .any all J).length]? with
   |some i=>Region.linearise.go .any all ab (t/(Region.ready .any all J).length) (J.setIfInBounds i true) [i]
   |none=>[].reverse):=rfl
  cases hi:(Region.ready .any all J)[t%(Region.ready .any all J).length]? with
  |none=>
   have cm:Region.ready .any all J=[]:=by
    cases hr:Region.ready .any all J with
    |nil=>rfl
    |cons x xs=>
     rw [hr] at hi;have b6:t%(x::xs).length<(x::xs).length:=Nat.mod_lt _ (by simp)
     simp at hi;simp at b6;omega
   rw [ck,hi] at ht;refine b1 J ρ w c bm ht I fun i=>?_
   induction i using Nat.strongRecOn with
   |ind i cv=>
    intro bn;cases dd:J.getD i false with
    |true=>rfl
    |false=>
     exfalso
     have al:i≤n:=by
      rcases Nat.lt_or_ge n i with h|h
      ·exact absurd (I.sub n (cv n h (by omega))) (Nat.lt_irrefl _)
      ·exact h
     obtain ⟨o,ho,tx⟩:=ea i bn al
     have:i∈Region.ready .any all J:=by
      unfold Region.ready;rw [List.mem_filter];refine ⟨by simpa using bn,?_⟩
      have h1:J.getD i true=false:=by
       rw [Array.getD_eq_getD_getElem?] at dd ⊢;have:i<J.size:=by omega
       simpa [this] using dd
      simp only [h1,ho,Option.map_some,Option.getD_some,Bool.not_false,Bool.true_and];rw [Array.all_eq_true_iff_forall_mem];intro e he;cases hb:Region.binds .any e with
      |false=>rfl
      |true=>
       have b6:=QA tx (by simpa using he) hb
       simp [cv e.on b6 (by omega)]
     rw [cm] at this;cases this
  |some i=>
   have bv:i∈Region.ready .any all J:=List.mem_of_getElem? hi;rw [ck,hi] at ht;simp only at ht;rw [linearise_go_acc,List.reverse_singleton,List.singleton_append] at ht;unfold Region.ready at bv;rw [List.mem_filter] at bv;obtain ⟨bn,b0⟩:=bv;simp only [List.mem_range] at bn;simp only [Bool.and_eq_true,Bool.not_eq_true'] at b0;obtain ⟨df,an⟩:=b0
   have bd:J.getD i false=false:=by
    rw [Array.getD_eq_getD_getElem?] at df ⊢;have:i<J.size:=by omega
    simpa [this] using df
   have cc:∀o,all[i]?=some o→∀e∈o.after.toList,Region.binds .any e=true→J.getD e.on false=true:=by
    intro o ho e he hb;rw [ho] at an;simp only [Option.map_some,Option.getD_some] at an;rw [Array.all_eq_true_iff_forall_mem] at an;have:=an e (by simpa using he)
    simpa [hb] using this
   rcases Nat.lt_trichotomy i n with al|al|al
   ·obtain ⟨o,ho,g⟩:=X.good i al;have ar:∀q,(R i).mask.testBit q=true→(fun i=>J.getD i false) q=true:=fun q hq=>TE (D:=fun i=>J.getD i false) g.tx I.closed (cc o ho) hq
    have hD:(fun i=>J.getD i false) i=false:=bd
    have ds:=X.tagree I al hD ar;rw [g.looks] at ds;have el:=X.lo al;have eb:=X.hi al;have em:=X.mono (i:=0) (j:=i) (by omega) (by omega)
    have er:=X.mono (i:=i+1) (j:=n) (by omega) (by omega)
    rw [g.hi] at eb
    have ec:AG ρ (H i).nx (Dd i).g.nx:=by
     intro b h1 h2;cases hb:ρ b with
     |none=>rfl
     |some base=>
      obtain ⟨j',cd,ed⟩:=I.free b (by omega) (by omega) (by rw [hb];exact Option.some_ne_none _)
      have:=X.disj al (I.sub j' cd) ⟨by omega,by rw [g.hi];exact h2⟩ ed
      subst this;rw [bd] at cd;cases cd
    obtain ⟨σ,v',w',q1,q2,q3,q4⟩:=NU hE hF (cs:=cs) g.tx.did (X.wfAt (by omega)) hm ht ho ds (I.heap.weaken fun b x hb hx=>X.agree I hM al hD ar hb hx) ec
    have I':=X.step I hM b5 al hD ar q2 q3 q4;rw [←Wj (by omega)] at I'
    rw [g.ok] at q1
    have du:c.finish v'={c with tmps:=II c.tmps (R i).dst v',todo:=.inRegion all (Region.linearise.go .any all ab (t/(Region.ready .any all J).length) (J.setIfInBounds i true) [])::k}:=by
     simp only [Frame.finish,ht,ho,Option.bind_some,II,g.dst];cases o.dst<;>rfl
    simp only [BH] at q1;rw [du] at q1
    obtain ⟨rest,τ,av,w2,D',r1,r2,r3,r4,r5⟩:=ih _ (J.setIfInBounds i true) σ w' {c with tmps:=II c.tmps (R i).dst v',todo:=.inRegion all (Region.linearise.go .any all ab (t/(Region.ready .any all J).length) (J.setIfInBounds i true) [])::k} hm rfl (by simp [bm]) (by
     rw [Array.toList_setIfInBounds,NF]
     ·omega
     ·have:i<J.size:=by omega
      rw [Array.getD_eq_getD_getElem?] at bd;simpa [this] using bd) I'
    exact ⟨rest,τ,av,w2,D',r1,r2,Steps.trans q1 r3,r4,r5⟩
   ·subst al;obtain ⟨o,ho,b⟩:=bs bn;refine ⟨i::Region.linearise.go .any all ab (t/(Region.ready .any all J).length) (J.setIfInBounds i true) [],ρ,c.tmps,w,_,I,fun q hq=>?_,?_,fun h=>by omega,fun _=>⟨_,rfl⟩⟩
    ·refine TE (D:=fun i=>J.getD i false) b.tx I.closed (cc o ho) ?_
     have:(R i).mask=2^i-1:=by have:=b.all;omega
     rw [this,Nat.testBit_two_pow_sub_one];simpa using hq
    ·rw [←ht];exact Steps.refl _ _
   ·exfalso
    obtain ⟨o,ho,b⟩:=bs (by omega)
    obtain ⟨recs,a1,a2,a3⟩:=b.after;have ee:all[i]?=some all[i]:=by simp [bn]
    have:=JX (recs:=recs++[{wr:=[],fp:=none,lo:=0,hi:=0,dst:=none,looks:=[],mask:=(R n).mask}]) (fun q x hq hx=>?_) (by simp [a1]) a3 all[i] ?_
    ·obtain ⟨e,he,hb,es⟩:=this;have:=cc _ ee e he hb;have:=I.sub e.on this;omega
    ·rw [List.getElem?_append_left (by omega),a2,List.getElem?_map,List.getElem?_range hq] at hx
     simp only [Option.map_some,Option.some.injEq] at hx;subst hx;cases dv:(R q).mask.testBit n with
     |false=>rfl
     |true=>have:=X.bits hq dv;omega
    ·rw [List.mem_iff_getElem?];refine ⟨i-(n+1),?_⟩;rw [List.getElem?_drop];rw [show n+1+(i-(n+1))=i by omega]
     simp
end
end Go.AE
namespace Go.AE
variable [Gl:AH]
variable [U:Unk]
theorem FW {f:AF} {cs:List AF} {v b:AV} {h c:Aa} {ok:Bool} (a:CC f cs v h=.done ok b c):cs=[]∧f.kind=.normal∧ok=true∧b=v∧c=h:=by
 unfold CC at a;split at a
 ·split at a
  ·split at a<;>cases a
  ·split at a<;>cases a
  ·cases a
 ·split at a
  ·rename_i d;cases a;exact ⟨rfl,d,rfl,rfl,rfl⟩
  ·cases a
theorem Fy {f:AF} {cs:List AF} {v:AV} {h:Aa} {s:AS} {ops:Array Oper} {k:List AI}:CC f cs v h≠.draw s ops k:=by
 intro a;unfold CC at a;split at a
 ·split at a
  ·split at a<;>cases a
  ·split at a<;>cases a
  ·cases a
 ·split at a<;>cases a
theorem EM {E:Env} {f:AF} {cs:List AF} {r:Res}:(∃s,Bx E f cs r=.next s)∨∃y,Bx E f cs r=.bad y:=by
 cases r<;>simp only [Bx]<;>repeat' (first|exact .inl ⟨_,rfl⟩|exact .inr ⟨_,rfl⟩|split)
theorem Is {E:Env} {s:AS} {f:Operand} {c:List Tmp} {a b:Code} {k:List AI}:(∃d,G3 E s f c a b k=.next d)∨∃y,G3 E s f c a b k=.bad y:=by
 unfold G3
 repeat' (first|exact .inl ⟨_,rfl⟩|exact .inr ⟨_,rfl⟩|split)
theorem EN {f:AF} {cs:List AF} {h:Aa} {j:Option Code} {s:AS} {ops:Array Oper} {k:List AI}:DH f cs h j≠.draw s ops k:=by
 intro a;unfold DH at a;split at a
 ·split at a<;>cases a
 ·split at a
  ·exact Fy a
  ·cases a
theorem N0 {E:Env} {f:AF} {cs:List AF} {h:Aa} {s:AS} {ops:Array Oper} {k:List AI}:D1 E f cs h≠.draw s ops k:=by
 intro a;unfold D1 at a;split at a
 ·split at a
  ·split at a<;>cases a
  ·split at a
   ·split at a<;>cases a
   ·cases a
 ·split at a
  ·cases a
  ·split at a
   ·split at a<;>cases a
   ·split at a
    ·split at a<;>cases a
    ·cases a
  ·split at a
   ·split at a
    ·exact Fy a
    ·exact Fy a
    ·cases a
   ·cases a
theorem CI {E:Env} {s b:AS} {ops:Array Oper} {k:List AI} (a:A4 E s=.draw b ops k):b=s∧s.fr.mode=.run∧∃id,s.fr.todo=.code (.region id ops true)::k:=by
 unfold A4 at a;simp only at a;split at a
 ·rename_i d;split at a
  ·exact absurd a EN
  ·cases a
  ·cases a
  ·cases a
  ·cases a
  ·split at a
   ·rcases EM (E:=E) (f:=s.fr) (cs:=s.cs) (r:=aop E s.fr.tmps s.h _) with ⟨y,h⟩|⟨y,h⟩<;>(rw [h] at a;cases a)
   ·rcases EM (E:=E) (f:=s.fr) (cs:=s.cs) (r:=.val .undef s.h) with ⟨y,h⟩|⟨y,h⟩<;>(rw [h] at a;cases a)
   ·cases a
  ·cases a
  ·cases a
  ·cases a
  ·split at a
   ·split at a<;>cases a
   ·cases a
  ·split at a
   ·split at a<;>cases a
   ·cases a
  ·rename_i c k2 e;split at a
   ·exact absurd a EN
   ·cases a
   ·cases a
   ·cases a
   ·split at a
    ·cases a
    ·cases a
    ·split at a
     ·split at a<;>cases a
     ·cases a
    ·cases a
   ·cases a
   ·cases a
   ·cases a
   ·split at a
    ·cases a
    ·split at a
     ·cases a
     ·exact absurd a EN
   ·split at a
    ·cases a
    ·split at a
     ·cases a
     ·exact absurd a EN
   ·rcases Is (E:=E) (s:=s) with ⟨y,h⟩|⟨y,h⟩<;>(rw [h] at a;cases a)
   ·split at a
    ·cases a
    ·cases a;exact ⟨rfl,d,_,e⟩
   ·cases a
 ·exact absurd a N0
end Go.AE
namespace Go.AE
variable [Gl:AH]
variable [U:Unk]
def iF (ok:Bool) (v:Value):Ending:=match ok with
 |true=>.returned v
 |false=>.panicked [{v:=v,recovered:=false}]
def cD (c0:Frame) (ok:Bool) (v:Value):Frame:=match ok with
 |true=>c0.finish v
 |false=>c0.raise [{v:=v,recovered:=false}]
structure IM (P:Program) (cf:Frame) (w:World) (ok:Bool) (v':Value) (w':World):Prop where
 back:∀(c0:Frame) (base:List Frame),step P (lone cf (c0::base) w)=.next (lone (cD c0 ok v') base w')
 leaves:cf.roundOf=none→w'=w∧cf.leaving P w (iF ok v')
section
variable {E:Env} (hE:OK E) {ρ:Ren} {h h2:Aa} {w:World} {c:Frame} {f:AF} {cs:List AF} {ccs base:List Frame} {s s':AS} {ok:Bool} {v:AV}
theorem FrL.nil_inv {ρ:Ren} {l:List Frame} (h:FrL ρ [] l):l=[]:=by cases h;rfl
theorem EC (hr:HR ρ h.blk.get w) (n:FrR ρ f c) (p:c.mode=.run) {a:Option Code}
  (q:(c.todo=[]∧a=none)∨(∃k,c.todo=.code .ret::k∧a=some .ret)∨(∃id k,c.todo=.code (.exit id)::k∧exitTo id k=none∧a=some (.exit id))∨(∃l k,c.todo=.code (.goto l)::k∧gotoIn l k=none∧a=some (.goto l)))
  (g:DH f cs h a=.done ok v h2):cs=[]∧∃o i,VR ρ v o∧HR ρ h2.blk.get i∧Ext ρ ρ h h2 w i∧IM E.P c w ok o i:=by
 have e:=n.round;unfold DH at g;split at g
 ·split at g<;>cases g
 ·rename_i l m;rw [m] at e;obtain ⟨b,r,j⟩:=e.some_inv;split at g
  ·rename_i st pending fn nt tmps params assign body d t;obtain ⟨i,u,x,y⟩:=JZ (E:=E) hr r t a;obtain ⟨rfl,z,rfl,rfl,rfl⟩:=FW g;refine ⟨rfl,_,i,.bool _,x,y,⟨fun c0 base=>P6 p j (n.kind.trans z) q u,fun h=>by rw [j] at h;cases h⟩⟩
  ·cases g
include hE
theorem OM (hr:HR ρ h.blk.get w) (k:FrR ρ f c) (K:c.mode≠.run) (d:D1 E f cs h=.done ok v h2):cs=[]∧∃m y,VR ρ v m∧HR ρ h2.blk.get y∧Ext ρ ρ h h2 w y∧IM E.P c w ok m y:=by
 have g:=k.defers;unfold D1 at d;split at d
 ·split at d
  ·split at d<;>cases d
  ·split at d
   ·split at d<;>cases d
   ·cases d
 ·rename_i z;rw [z] at g
  have i:c.defers=[]:=by
   cases i:c.defers with
   |nil=>rfl
   |cons L I=>rw [i] at g;exact g.elim
  have b:=k.mode;split at d
  ·cases d
  ·rename_i A p;rw [p] at b;split at d
   ·split at d<;>cases d
   ·split at d
    ·split at d
     ·rename_i fn q;cases d;generalize j:c.mode=M at b;cases b with
      |panic _ B u=>
       cases B with
       |nil=>exact u.elim
       |cons e r=>
        obtain ⟨F,h2,G,J⟩:=u;cases r with
        |cons _ _=>exact J.elim
        |nil=>
         obtain ⟨H,N,O⟩:=e;simp only at F h2 G;subst h2;subst G;have n:c.leaving E.P w (.panicked [{v:=H,recovered:=false}]):=⟨j,i,fn,by rw [k.fn];exact hE.fn _ _ q⟩
         exact ⟨rfl,H,w,F,hr,Ext.refl _ _ _,⟨fun c0 base=>step_leave_panicked n,fun _=>⟨rfl,n⟩⟩⟩
     ·cases d
    ·cases d
  ·rename_i p;rw [p] at b
   have j:c.mode=.returning:=by
    generalize c.mode=x at b;cases b;rfl
   split at d
   ·rename_i fn q;have o:E.P.funcs[c.fn]?=some fn:=by rw [k.fn];exact hE.fn _ _ q
    split at d
    ·rename_i v t;obtain ⟨m,p1,p2,p3⟩:=FD hE hr k t;obtain ⟨rfl,C,rfl,rfl,rfl⟩:=FW d;have n:c.leaving E.P w (.returned m):=⟨j,i,k.kind.trans C,fn,o,p1⟩;exact ⟨rfl,m,w,p2 _ rfl,hr,Ext.refl _ _ _,⟨fun c0 base=>step_leave_returned n,fun _=>⟨rfl,n⟩⟩⟩
    ·rename_i l D t;obtain ⟨m,p1,p2,p3⟩:=FD hE hr k t;obtain ⟨rfl,C,rfl,rfl,rfl⟩:=FW d;have n:c.leaving E.P w (.returned m):=⟨j,i,k.kind.trans C,fn,o,p1⟩;exact ⟨rfl,m,w,p3 fun a e=>D a (by rw [e]),hr,Ext.refl _ _ _,⟨fun c0 base=>step_leave_returned n,fun _=>⟨rfl,n⟩⟩⟩
    ·cases d
   ·cases d
theorem HJ (d:SR ρ s c ccs w) (b:A4 E s=.done ok v h2):ccs=[]∧∃n j,VR ρ v n∧HR ρ h2.blk.get j∧Ext ρ ρ s.h h2 w j∧IM E.P c w ok n j:=by
 have g:=d.fr.mode;have e:=d.fr.todo
 suffices z:s.cs=[]∧∃n j,VR ρ v n∧HR ρ h2.blk.get j∧Ext ρ ρ s.h h2 w j∧IM E.P c w ok n j by
  obtain ⟨A,h2⟩:=z;have o:=d.cs;rw [A] at o;exact ⟨o.nil_inv,h2⟩
 unfold A4 at b;simp only at b;split at b
 ·rename_i l;rw [l] at g
  have p:c.mode=.run:=by
   generalize c.mode=x at g;cases g;rfl
  split at b
  ·rename_i q;rw [q] at e;generalize i:c.todo=td at e;cases e;exact EC d.h d.fr p (.inl ⟨i,rfl⟩) b
  ·cases b
  ·cases b
  ·cases b
  ·cases b
  ·split at b
   ·rcases EM (E:=E) (f:=s.fr) (cs:=s.cs) (r:=aop E s.fr.tmps s.h _) with ⟨y,h⟩|⟨y,h⟩<;>(rw [h] at b;cases b)
   ·rcases EM (E:=E) (f:=s.fr) (cs:=s.cs) (r:=.val .undef s.h) with ⟨y,h⟩|⟨y,h⟩<;>(rw [h] at b;cases b)
   ·cases b
  ·cases b
  ·cases b
  ·cases b
  ·split at b
   ·split at b<;>cases b
   ·cases b
  ·split at b
   ·split at b<;>cases b
   ·cases b
  ·rename_i B k q;rw [q] at e;generalize i:c.todo=td at e;cases e with|cons a u=>
   cases a;split at b
   ·exact EC d.h d.fr p (.inr (.inl ⟨_,i,rfl⟩)) b
   ·cases b
   ·cases b
   ·cases b
   ·split at b
    ·cases b
    ·cases b
    ·split at b
     ·split at b<;>cases b
     ·cases b
    ·cases b
   ·cases b
   ·cases b
   ·cases b
   ·split at b
    ·cases b
    ·rename_i t;split at b
     ·cases b
     ·rename_i m;exact EC d.h d.fr p (.inr (.inr (.inl ⟨_,_,i,(LK u).2 t m,rfl⟩))) b
   ·split at b
    ·cases b
    ·rename_i t;split at b
     ·cases b
     ·rename_i m;exact EC d.h d.fr p (.inr (.inr (.inr ⟨_,_,i,(LL u).2 t m,rfl⟩))) b
   ·rcases Is (E:=E) (s:=s) with ⟨y,h⟩|⟨y,h⟩<;>(rw [h] at b;cases b)
   ·split at b<;>cases b
   ·cases b
 ·rename_i l;exact OM hE d.h d.fr (Hd.not_run g l) b
end
end Go.AE
namespace Go.AE
variable [Gl:AH]
@[reducible] def lw:Unk:={facts:=[],V:=⟨fun _=>default,fun _ d=>d⟩,K:=fun _=>none,R:=[],hR:=fun _ _ _ _ _ h=>(by cases h),ok:=by simp}
def GL:SE→SE
 |.nilIs y _=>GL y
 |.nilL=>.c 0
 |.emptyL=>.c 0
 |.upd a _ _ _=>GL a
 |.cat a b=>match GL a with
  |.c n=>match n==0 with
   |true=>GL b
   |false=>.lenL (.cat a b)
  |_=>.lenL (.cat a b)
 |.snoc a r=>match GL a with
  |.c n=>.c (n+1)
  |_=>.lenL (.snoc a r)
 |x=>.lenL x
def Jp:SE→SE
 |.nilIs _ b=>b
 |.nilL=>.bc true
 |.emptyL=>.bc false
 |.snoc _ _=>.bc false
 |.rep _ _=>.bc false
 |.upd a _ _ _=>Jp a
 |x=>.isNil x
def V3:SE→SE→SE
 |.bc true,b=>b
 |.bc false,_=>.bc false
 |_,.bc false=>.bc false
 |a,.bc true=>a
 |a,b=>.and a b
def SE.isB:SE→Bool
 |.bc _=>true
 |.lss _ _=>true
 |.eql _ _=>true
 |.eqS _ _ _=>true
 |.eqSS _ _=>true
 |.isNil _=>true
 |.neg _=>true
 |.and _ _=>true
 |_=>false
def ic:SE→SE
 |.bc b=>.bc (!b)
 |x=>.neg x
def az:SE→SE→SE
 |.c n,.c m=>.bc (n==m)
 |a,b=>match a.same b with
  |true=>.bc true
  |false=>.eql a b
def aw:SE→SE→SE
 |.c n,.c m=>.bc (decide (n<m))
 |a,b=>.lss a b
def SE.norm:SE→SE
 |.lenL a=>GL a.norm
 |.isNil a=>match (Jp a.norm).isB with
  |true=>Jp a.norm
  |false=>.isNil a.norm
 |.and a b=>match (V3 a.norm b.norm).isB with
  |true=>V3 a.norm b.norm
  |false=>.and a.norm b.norm
 |.neg a=>ic a.norm
 |.nilIs a b=>.nilIs a.norm b.norm
 |.eql a b=>az a.norm b.norm
 |.lss a b=>aw a.norm b.norm
 |.arith l k a b=>.arith l k a.norm b.norm
 |.cell a i j=>.cell a.norm i.norm j
 |.snoc a r=>.snoc a.norm r.norm
 |.rcons x r=>.rcons x.norm r.norm
 |.upd a i j x=>.upd a.norm i.norm j x.norm
 |.sel a j=>.sel a.norm j
 |.app g a=>.app g a.norm
 |.cat a b=>.cat a.norm b.norm
 |.rmv a i=>.rmv a.norm i.norm
 |.mIdx ks a k=>.mIdx ks a.norm k.norm
 |e=>e
theorem Wf (V:Val):∀x:SE,Ab V (GL x)=.int ((Ab V x).rows.length:Nat):=by
 intro x
 induction x
 case nilIs y b ih _=>simp only [GL,ih,Ab,D.rows]
 case upd a i j x ih _ _=>simp only [GL,ih,Ab,D.rows,List.length_modify]
 case cat a b c d=>
  simp only [GL];split
  ·rename_i n h;split
   ·rename_i f;have f:=eq_of_beq f;subst f;rw [h] at c
    have h0:(Ab V a).rows.length=0:=by
     simp only [Ab,D.int.injEq] at c;omega
    rw [d];have e:(Ab V (.cat a b)).rows=(Ab V a).rows++(Ab V b).rows:=rfl;rw [e,List.length_append,h0,Nat.zero_add]
   ·rfl
  ·rfl
 case snoc a r ih _=>
  simp only [GL];split
  ·rename_i n h;rw [h] at ih;simp only [Ab,D.int.injEq,D.rows,List.length_append,List.length_singleton] at ih ⊢;omega
  ·rfl
 all_goals rfl
theorem UU (V:Val):∀x:SE,(Jp x).isB=true→Ab V (Jp x)=.bool (Ab V x).isNil:=by
 intro x
 induction x<;>intro c<;>first|rfl|skip
 case upd a i j x ih _ _=>exact ih c
 case nilIs y b _ _=>
  simp only [Jp] at c ⊢;cases b<;>first|rfl | (simp [SE.isB] at c;done)|skip
theorem Ob (V:Val) {x:SE} (h:x.isB=true):Ab V x=.bool (Ab V x).toBool:=by
 cases x<;>first|rfl | (simp [SE.isB] at h;done)
theorem Zb (V:Val) (a b:SE) (h:(V3 a b).isB=true):Ab V (V3 a b)=Ab V (.and a b):=by
 unfold V3 at h ⊢;split
 ·simp only at h;rw [Ob V h];simp only [Ab,D.toBool,Bool.true_and]
 ·simp only [Ab,D.toBool,Bool.false_and]
 ·simp only [Ab,D.toBool,Bool.and_false]
 ·simp only at h;rw [Ob V h];simp only [Ab,D.toBool,Bool.and_true]
 ·rfl
theorem Yz (V:Val) (a b:SE):Ab V (az a b)=Ab V (.eql a b):=by
 unfold az;split
 ·rfl
 ·split
  ·rename_i h;rw [SE.same_ok (U:=lw) h];simp only [Ab,beq_self_eq_true]
  ·rfl
theorem YF (V:Val) (a b:SE):Ab V (aw a b)=Ab V (.lss a b):=by
 unfold aw;split<;>rfl
theorem Cs (V:Val):∀e:SE,Ab V e.norm=Ab V e:=by
 intro e
 induction e
 case lenL a ih=>simp only [SE.norm,Wf,ih];rfl
 case isNil a ih=>
  simp only [SE.norm];split
  ·rename_i h;rw [UU V _ h,ih];rfl
  ·simp only [Ab,ih]
 case and a b c d=>
  simp only [SE.norm];split
  ·rename_i h;rw [Zb V _ _ h];simp only [Ab,c,d]
  ·simp only [Ab,c,d]
 case neg a ih=>
  simp only [SE.norm];unfold ic;split
  ·rename_i b h;rw [h] at ih;simp only [Ab] at ih ⊢;rw [←ih];rfl
  ·simp only [Ab,ih]
 case eql a b c d=>simp only [SE.norm,Yz,Ab,c,d]
 case lss a b c d=>simp only [SE.norm,YF,Ab,c,d]
 all_goals simp_all only [SE.norm,Ab]
end Go.AE
namespace Go.AE
variable [Gl:AH]
def eqD {c:Type} [DecidableEq c] (a b:c):Bool:=decide (a=b)
theorem Ct {c:Type} [DecidableEq c] {a b:c} (h:eqD a b=true):a=b:=of_decide_eq_true h
theorem AX {i j:Nat} (h:Nat.beq i j=true):i=j:=Nat.eq_of_beq_eq_true h
def OS:Value→Value→Bool
 |.bool a,.bool b=>eqD a b
 |.int k a,.int c b=>eqD k c&&eqD a b
 |.string a,.string b=>eqD a.data.toList b.data.toList
 |.pointer none,.pointer none=>true
 |.slice none a b,.slice none d e=>Nat.beq a d&&Nat.beq b e
 |.map none,.map none=>true
 |.nilFunc,.nilFunc=>true
 |.nilIface,.nilIface=>true
 |_,_=>false
theorem RK {a b:Value} (h:OS a b=true):a=b:=by
 unfold OS at h;split at h<;>first|rfl | (cases h;done)|skip
 ·rw [Ct h]
 ·simp only [Bool.and_eq_true] at h;rw [Ct h.1,Ct h.2]
 ·rename_i a b;have:=Ct h
  have e:a=b:=by
   cases a;cases b;simp only [ByteArray.mk.injEq];exact Array.ext' this
  rw [e]
 ·simp only [Bool.and_eq_true] at h;rw [AX h.1,AX h.2]
def AJ:Operand→Operand→Bool
 |.tmp a,.tmp b=>Nat.beq a b
 |.const a,.const b=>OS a b
 |.global a,.global b=>Nat.beq a b
 |.func a,.func b=>Nat.beq a b
 |_,_=>false
theorem Ak {a b:Operand} (h:AJ a b=true):a=b:=by
 unfold AJ at h;split at h<;>first | (cases h;done)|skip
 ·rw [AX h]
 ·rw [RK h]
 ·rw [AX h]
 ·rw [AX h]
def FqQ {c:Type} (d:c→c→Bool):List c→List c→Bool
 |[],[]=>true
 |a::l,b::m=>d a b&&FqQ d l m
 |_,_=>false
theorem G1 {c:Type} {d:c→c→Bool} (e:∀a b,d a b=true→a=b):∀{l m:List c},FqQ d l m=true→l=m
 |[],[],_=>rfl
 |a::l,b::m,h=>by
  simp only [FqQ,Bool.and_eq_true] at h;rw [e a b h.1,G1 e h.2]
 |[],_::_,h=>by cases h
 |_::_,[],h=>by cases h
def Ki {c:Type} (d:c→c→Bool) (a b:Array c):Bool:=FqQ d a.toList b.toList
theorem Er {c:Type} {d:c→c→Bool} (e:∀a b,d a b=true→a=b) {a b:Array c} (h:Ki d a b=true):a=b:=Array.ext' (G1 e h)
def Tu (a b:Array Operand):Bool:=Ki AJ a b
theorem LP {a b:Array Operand} (h:Tu a b=true):a=b:=Er (fun _ _=>Ak) h
def bI (a b:Array (Nat×Operand)):Bool:=Ki (fun x y=>Nat.beq x.1 y.1&&AJ x.2 y.2) a b
theorem TQ {a b:Array (Nat×Operand)} (h:bI a b=true):a=b:=Er (fun x y h=>by
 simp only [Bool.and_eq_true] at h;exact Prod.ext (AX h.1) (Ak h.2)) h
def QE {c:Type} (d:c→c→Bool):Option c→Option c→Bool
 |none,none=>true
 |some a,some b=>d a b
 |_,_=>false
theorem I7 {c:Type} {d:c→c→Bool} (e:∀a b,d a b=true→a=b) {a b:Option c} (h:QE d a b=true):a=b:=by
 cases a<;>cases b<;>first|rfl | (cases h;done)|skip
 rw [e _ _ h]
def WD (a b:Option Operand):Bool:=QE AJ a b
theorem KF {a b:Option Operand} (h:WD a b=true):a=b:=I7 (fun _ _=>Ak) h
def WJ:Fn→Fn→Bool
 |.func f,.func g=>Nat.beq f g
 |.method n,.method m=>eqD n m
 |_,_=>false
theorem Xk {a b:Fn} (h:WJ a b=true):a=b:=by
 unfold WJ at h;split at h<;>first | (cases h;done)|skip
 ·rw [AX h]
 ·rw [Ct h]
def LI:Callee→Callee→Bool
 |.value f,.value g=>AJ f g
 |.invoke r n,.invoke a c=>AJ r a&&eqD n c
 |.builtin b,.builtin d=>eqD b d
 |_,_=>false
theorem QF {a b:Callee} (h:LI a b=true):a=b:=by
 unfold LI at h;split at h<;>first | (cases h;done)|skip
 ·rw [Ak h]
 ·simp only [Bool.and_eq_true] at h;rw [Ak h.1,Ct h.2]
 ·rw [Ct h]
def OL (a b:Call):Bool:=LI a.callee b.callee&&Tu a.args b.args&&Ki Nat.beq a.argTypes b.argTypes
theorem NE {a b:Call} (h:OL a b=true):a=b:=by
 cases a;cases b;simp only [OL,Bool.and_eq_true] at h;simp only [Call.mk.injEq];exact ⟨QF h.1.1,LP h.1.2,Er (fun _ _=>AX) h.2⟩
def cK:Op→Op→Bool
 |.move x0,.move a=>AJ x0 a
 |.assign x0,.assign a=>AJ x0 a
 |.pick x0 x1 x2,.pick a y1 y2=>AJ x0 a&&AJ x1 y1&&AJ x2 y2
 |.alloc x0,.alloc a=>Nat.beq x0 a
 |.box x0 x1,.box a y1=>Nat.beq x0 a&&AJ x1 y1
 |.build x0 x1,.build a y1=>Nat.beq x0 a&&bI x1 y1
 |.buildSlice x0 x1 x2,.buildSlice a y1 y2=>Nat.beq x0 a&&Nat.beq x1 y1&&bI x2 y2
 |.insert x0 x1 x2 x3,.insert a y1 y2 y3=>Nat.beq x0 a&&AJ x1 y1&&AJ x2 y2&&AJ x3 y3
 |.load x0 x1,.load a y1=>Nat.beq x0 a&&AJ x1 y1
 |.store x0 x1 x2,.store a y1 y2=>Nat.beq x0 a&&AJ x1 y1&&AJ x2 y2
 |.ready x0,.ready a=>Nat.beq x0 a
 |.waits x0,.waits a=>Nat.beq x0 a
 |.nilCheck x0,.nilCheck a=>AJ x0 a
 |.binOp x0 x1 x2 x3 x4,.binOp a y1 y2 y3 y4=>eqD x0 a&&Nat.beq x1 y1&&AJ x2 y2&&AJ x3 y3&&Nat.beq x4 y4
 |.unOp x0 x1 x2,.unOp a y1 y2=>eqD x0 a&&Nat.beq x1 y1&&AJ x2 y2
 |.convert x0 x1 x2,.convert a y1 y2=>Nat.beq x0 a&&Nat.beq x1 y1&&AJ x2 y2
 |.sliceToArrayPointer x0 x1,.sliceToArrayPointer a y1=>Nat.beq x0 a&&AJ x1 y1
 |.makeInterface x0 x1,.makeInterface a y1=>Nat.beq x0 a&&AJ x1 y1
 |.makeFunc x0 x1 x2,.makeFunc a y1 y2=>WJ x0 a&&Tu x1 y1&&Tu x2 y2
 |.makeMap x0 x1,.makeMap a y1=>Nat.beq x0 a&&WD x1 y1
 |.makeSlice x0 x1 x2,.makeSlice a y1 y2=>Nat.beq x0 a&&AJ x1 y1&&AJ x2 y2
 |.slice x0 x1 x2 x3 x4,.slice a y1 y2 y3 y4=>Nat.beq x0 a&&AJ x1 y1&&WD x2 y2&&WD x3 y3&&WD x4 y4
 |.fieldAddr x0 x1 x2,.fieldAddr a y1 y2=>Nat.beq x0 a&&AJ x1 y1&&Nat.beq x2 y2
 |.field x0 x1 x2,.field a y1 y2=>Nat.beq x0 a&&AJ x1 y1&&Nat.beq x2 y2
 |.indexAddr x0 x1 x2,.indexAddr a y1 y2=>Nat.beq x0 a&&AJ x1 y1&&AJ x2 y2
 |.index x0 x1 x2,.index a y1 y2=>Nat.beq x0 a&&AJ x1 y1&&AJ x2 y2
 |.lookup x0 x1 x2 x3,.lookup a y1 y2 y3=>Nat.beq x0 a&&AJ x1 y1&&AJ x2 y2&&eqD x3 y3
 |.mapUpdate x0 x1 x2 x3,.mapUpdate a y1 y2 y3=>Nat.beq x0 a&&AJ x1 y1&&AJ x2 y2&&AJ x3 y3
 |.mapEntry x0 x1 x2,.mapEntry a y1 y2=>Nat.beq x0 a&&AJ x1 y1&&AJ x2 y2
 |.entryStore x0 x1 x2 x3,.entryStore a y1 y2 y3=>Nat.beq x0 a&&AJ x1 y1&&AJ x2 y2&&AJ x3 y3
 |.range x0 x1,.range a y1=>Nat.beq x0 a&&AJ x1 y1
 |.next x0 x1,.next a y1=>AJ x0 a&&eqD x1 y1
 |.entry x0,.entry a=>AJ x0 a
 |.typeAssert x0 x1 x2 x3,.typeAssert a y1 y2 y3=>AJ x0 a&&Nat.beq x1 y1&&Nat.beq x2 y2&&eqD x3 y3
 |.extract x0 x1,.extract a y1=>AJ x0 a&&Nat.beq x1 y1
 |.call x0,.call a=>OL x0 a
 |.defer x0,.defer a=>OL x0 a
 |.panic x0,.panic a=>AJ x0 a
 |_,_=>false
set_option maxHeartbeats 4000000 in
theorem Zf:∀{a b:Op},cK a b=true→a=b:=by
 intro a b h;cases a<;>cases b<;>simp only [cK,Bool.false_eq_true,Bool.and_eq_true] at h
 case move.move=>have h0:=h;rw [Ak h0]
 case assign.assign=>have h0:=h;rw [Ak h0]
 case pick.pick=>obtain ⟨⟨h0,c⟩,d⟩:=h;rw [Ak h0,Ak c,Ak d]
 case alloc.alloc=>have h0:=h;rw [AX h0]
 case box.box=>obtain ⟨h0,c⟩:=h;rw [AX h0,Ak c]
 case build.build=>obtain ⟨h0,c⟩:=h;rw [AX h0,TQ c]
 case buildSlice.buildSlice=>obtain ⟨⟨h0,c⟩,d⟩:=h;rw [AX h0,AX c,TQ d]
 case insert.insert=>obtain ⟨⟨⟨h0,c⟩,d⟩,e⟩:=h;rw [AX h0,Ak c,Ak d,Ak e]
 case load.load=>obtain ⟨h0,c⟩:=h;rw [AX h0,Ak c]
 case store.store=>obtain ⟨⟨h0,c⟩,d⟩:=h;rw [AX h0,Ak c,Ak d]
 case ready.ready=>have h0:=h;rw [AX h0]
 case waits.waits=>have h0:=h;rw [AX h0]
 case nilCheck.nilCheck=>have h0:=h;rw [Ak h0]
 case binOp.binOp=>obtain ⟨⟨⟨⟨h0,c⟩,d⟩,e⟩,f⟩:=h;rw [Ct h0,AX c,Ak d,Ak e,AX f]
 case unOp.unOp=>obtain ⟨⟨h0,c⟩,d⟩:=h;rw [Ct h0,AX c,Ak d]
 case convert.convert=>obtain ⟨⟨h0,c⟩,d⟩:=h;rw [AX h0,AX c,Ak d]
 case sliceToArrayPointer.sliceToArrayPointer=>obtain ⟨h0,c⟩:=h;rw [AX h0,Ak c]
 case makeInterface.makeInterface=>obtain ⟨h0,c⟩:=h;rw [AX h0,Ak c]
 case makeFunc.makeFunc=>obtain ⟨⟨h0,c⟩,d⟩:=h;rw [Xk h0,LP c,LP d]
 case makeMap.makeMap=>obtain ⟨h0,c⟩:=h;rw [AX h0,KF c]
 case makeSlice.makeSlice=>obtain ⟨⟨h0,c⟩,d⟩:=h;rw [AX h0,Ak c,Ak d]
 case slice.slice=>obtain ⟨⟨⟨⟨h0,c⟩,d⟩,e⟩,f⟩:=h;rw [AX h0,Ak c,KF d,KF e,KF f]
 case fieldAddr.fieldAddr=>obtain ⟨⟨h0,c⟩,d⟩:=h;rw [AX h0,Ak c,AX d]
 case field.field=>obtain ⟨⟨h0,c⟩,d⟩:=h;rw [AX h0,Ak c,AX d]
 case indexAddr.indexAddr=>obtain ⟨⟨h0,c⟩,d⟩:=h;rw [AX h0,Ak c,Ak d]
 case index.index=>obtain ⟨⟨h0,c⟩,d⟩:=h;rw [AX h0,Ak c,Ak d]
 case lookup.lookup=>obtain ⟨⟨⟨h0,c⟩,d⟩,e⟩:=h;rw [AX h0,Ak c,Ak d,Ct e]
 case mapUpdate.mapUpdate=>obtain ⟨⟨⟨h0,c⟩,d⟩,e⟩:=h;rw [AX h0,Ak c,Ak d,Ak e]
 case mapEntry.mapEntry=>obtain ⟨⟨h0,c⟩,d⟩:=h;rw [AX h0,Ak c,Ak d]
 case entryStore.entryStore=>obtain ⟨⟨⟨h0,c⟩,d⟩,e⟩:=h;rw [AX h0,Ak c,Ak d,Ak e]
 case range.range=>obtain ⟨h0,c⟩:=h;rw [AX h0,Ak c]
 case next.next=>obtain ⟨h0,c⟩:=h;rw [Ak h0,Ct c]
 case entry.entry=>have h0:=h;rw [Ak h0]
 case typeAssert.typeAssert=>obtain ⟨⟨⟨h0,c⟩,d⟩,e⟩:=h;rw [Ak h0,AX c,AX d,Ct e]
 case extract.extract=>obtain ⟨h0,c⟩:=h;rw [Ak h0,AX c]
 case call.call=>have h0:=h;rw [NE h0]
 case defer.defer=>have h0:=h;rw [NE h0]
 case panic.panic=>have h0:=h;rw [Ak h0]
def Sa (a b:Edge):Bool:=Nat.beq a.on b.on&&eqD a.ground b.ground
theorem Um {a b:Edge} (h:Sa a b=true):a=b:=by
 cases a;cases b;simp only [Sa,Bool.and_eq_true] at h;simp only [Edge.mk.injEq];exact ⟨AX h.1,Ct h.2⟩
def LZ (a b:Oper):Bool:=QE Nat.beq a.dst b.dst&&cK a.op b.op&&Nat.beq a.type b.type&&Ki Sa a.after b.after&&QE (fun x y=>Nat.beq x.1 y.1&&eqD x.2 y.2) a.guard b.guard&&eqD a.pos b.pos
theorem JC {a b:Oper} (h:LZ a b=true):a=b:=by
 cases a;cases b;simp only [LZ,Bool.and_eq_true] at h;obtain ⟨⟨⟨⟨⟨c,d⟩,e⟩,f⟩,g⟩,i⟩:=h;simp only [Oper.mk.injEq];refine ⟨I7 (fun _ _=>AX) c,Zf d,AX e,Ct i,Er (fun _ _=>Um) f,I7 (fun x y h=>?_) g⟩
 simp only [Bool.and_eq_true] at h;exact Prod.ext (AX h.1) (Ct h.2)
def Ci:Code→Code→Bool
 |.skip,.skip=>true
 |.region i o d,.region g j k=>Nat.beq i g&&eqD d k&&Ki LZ o j
 |.seq a b,.seq e h=>Ci a e&&Ci b h
 |.cond c a b,.cond l e h=>AJ c l&&Ci a e&&Ci b h
 |.block i a,.block g e=>Nat.beq i g&&Ci a e
 |.loop a,.loop e=>Ci a e
 |.rangeFunc f p a b,.rangeFunc m n e h=>AJ f m&&Ki Nat.beq p n&&Ci a e&&Ci b h
 |.exit i,.exit g=>Nat.beq i g
 |.scope a,.scope e=>Ci a e
 |.label i,.label g=>Nat.beq i g
 |.goto i,.goto g=>Nat.beq i g
 |.ret,.ret=>true
 |_,_=>false
theorem D6:∀{a b:Code},Ci a b=true→a=b:=by
 intro a
 induction a<;>intro b h<;>cases b<;>simp only [Ci,Bool.false_eq_true,Bool.and_eq_true] at h<;>first|rfl|skip
 case region.region=>rw [AX h.1.1,Ct h.1.2,Er (fun _ _=>JC) h.2]
 case seq.seq c d _ _=>rw [c h.1,d h.2]
 case cond.cond c d _ _ _=>rw [Ak h.1.1,c h.1.2,d h.2]
 case block.block ih _ _=>rw [AX h.1,ih h.2]
 case loop.loop ih _=>rw [ih h]
 case rangeFunc.rangeFunc c d _ _ _ _=>rw [Ak h.1.1.1,Er (fun _ _=>AX) h.1.1.2,c h.1.2,d h.2]
 case exit.exit=>rw [AX h]
 case scope.scope ih _=>rw [ih h]
 case label.label=>rw [AX h]
 case goto.goto=>rw [AX h]
end Go.AE
namespace Go.AE
variable [Gl:AH]
def SE.inst (t:List SE):SE→SE
 |.c n=>.c n
 |.var i=>t.getD i (.var i)
 |.lenS a=>.lenS (a.inst t)
 |.lenL a=>.lenL (a.inst t)
 |.arith I k a b=>.arith I k (a.inst t) (b.inst t)
 |.conv k a=>.conv k (a.inst t)
 |.lss a b=>.lss (a.inst t) (b.inst t)
 |.eql a b=>.eql (a.inst t) (b.inst t)
 |.eqS a l b=>.eqS (a.inst t) l b
 |.eqSS a b=>.eqSS (a.inst t) (b.inst t)
 |.isNil a=>.isNil (a.inst t)
 |.bc b=>.bc b
 |.neg a=>.neg (a.inst t)
 |.and a b=>.and (a.inst t) (b.inst t)
 |.nilIs a b=>.nilIs (a.inst t) (b.inst t)
 |.strc l b=>.strc l b
 |.strAt a i=>.strAt (a.inst t) (i.inst t)
 |.strCat a b=>.strCat (a.inst t) (b.inst t)
 |.strSub a lo hi=>.strSub (a.inst t) (lo.inst t) (hi.inst t)
 |.cell a i j=>.cell (a.inst t) (i.inst t) j
 |.sel a j=>.sel (a.inst t) j
 |.nilL=>.nilL
 |.emptyL=>.emptyL
 |.snoc a r=>.snoc (a.inst t) (r.inst t)
 |.upd a i j x=>.upd (a.inst t) (i.inst t) j (x.inst t)
 |.rep n r=>.rep (n.inst t) (r.inst t)
 |.cat a b=>.cat (a.inst t) (b.inst t)
 |.sub a lo hi=>.sub (a.inst t) (lo.inst t) (hi.inst t)
 |.rnil=>.rnil
 |.rcons x r=>.rcons (x.inst t) (r.inst t)
 |.app f x=>.app f (x.inst t)
 |.bytes a=>.bytes (a.inst t)
 |.ofBytes a=>.ofBytes (a.inst t)
 |.mIdx ks a k=>.mIdx ks (a.inst t) (k.inst t)
 |.rmv a i=>.rmv (a.inst t) (i.inst t)
def Val.inst (V:Val) (l:List SE):Val:={d:=fun i=>Ab V (l.getD i (.var i)),fn:=V.fn}
theorem B4 (V:Val) (a:List SE):∀e:SE,Ab V (e.inst a)=Ab (V.inst a) e:=by
 intro e
 induction e<;>simp_all only [SE.inst,Ab,Val.inst]<;>rfl
theorem Nz (V:Val) (a:List SE) (e:SE):Ac V (e.inst a)=Ac (V.inst a) e:=by unfold Ac;rw [B4]
theorem Ff (V:Val) (a:List SE) (e:SE):Ad V (e.inst a)=Ad (V.inst a) e:=by unfold Ad;rw [B4]
abbrev Obs:=List (SE×SE)
def Kz (a b:SE):Option Obs:=match a.same b with
 |true=>some []
 |false=>match a.norm.same b.norm with
  |true=>some []
  |false=>some [(a,b)]
def C7 (a b:SE):Option Obs:=match a.same b with
 |true=>some []
 |false=>match a.norm.same b.norm with
  |true=>some []
  |false=>some [(.and a (.bc true),.and b (.bc true))]
def Hh (a b:SE):Option Obs:=match a.same b with
 |true=>some []
 |false=>match a.norm.same b.norm with
  |true=>some []
  |false=>some [(.eql a b,.bc true)]
def Obs.holds (V:Val) (o:Obs):Prop:=∀a b,(a,b)∈o→Ab V a=Ab V b
def DQ (a b:Option Obs):Option Obs:=match a,b with
 |some x,some y=>some (x++y)
 |_,_=>none
def DO (c:Bool) (o:Option Obs):Option Obs:=match c with
 |true=>o
 |false=>none
def toB (a:List Nat) (b c:Nat):Bool:=match a[b]? with
 |some d=>Nat.beq d c
 |none=>false
def Y6 (a:List Nat):Fn→Fn→Bool
 |.func f,.func g=>Nat.beq f g
 |.yield l,.yield m=>toB a l m
 |_,_=>false
mutual
def CO (d:List SE) (h:List Nat):AV→AV→Option Obs
 |.top,_=>some []
 |.bool a,.bool b=>DO (a==b) (some [])
 |.int k a,.int u b=>DO (decide (k=u)&&a==b) (some [])
 |.str l a,.str w b=>DO (Nat.beq l w&&Nat.beq a b) (some [])
 |.ptr0,.ptr0=>some []
 |.ptr b o,.ptr j y=>DO (toB h b j&&Nat.beq o y) (some [])
 |.slice0,.slice0=>some []
 |.slice b o n r,.slice j y z q=>DO (toB h b j&&Nat.beq o y&&Nat.beq n z&&Nat.beq r q) (some [])
 |.map0,.map0=>some []
 |.map b,.map j=>DO (toB h b j) (some [])
 |.func fn f c,.func A C D=>DO (Y6 h fn A) (DQ (FZ d h f C) (FZ d h c D))
 |.nilFunc,.nilFunc=>some []
 |.iface t v,.iface E F=>DO (Nat.beq t E) (CO d h v F)
 |.nilIface,.nilIface=>some []
 |.agg l,.agg w=>FZ d h l w
 |.tuple l,.tuple w=>FZ d h l w
 |.sb p e,.sb G s=>match p==G with
  |true=>C7 (e.inst d) s
  |false=>C7 (e.inst d) (.neg s)
 |.sb p e,.bool b=>C7 (e.inst d) (.bc (b==p))
 |.si k e,.si u s=>DO (decide (k=u)) (Hh (e.inst d) s)
 |.si k e,.int u n=>DO (decide (k=u)) (Hh (e.inst d) (.c n))
 |.ss x,.ss B=>Kz (x.inst d) B
 |.ss x,.str l b=>Kz (x.inst d) (.strc l b)
 |.dat e x,.dat s B=>DO (Nat.beq e s) (Kz (x.inst d) B)
 |.dat e x,.slice0=>Kz (x.inst d) .nilL
 |.asl b r n g,.asl j q z i=>DO (toB h b j&&Nat.beq r q) (DQ (Hh (n.inst d) z) (C7 (g.inst d) i))
 |.asl b r n g,.slice j y z q=>DO (toB h b j&&Nat.beq y 0&&Nat.beq r q) (DQ (Hh (n.inst d) (.c z)) (C7 (g.inst d) (.bc false)))
 |.asl b r n g,.slice0=>DQ (Hh (n.inst d) (.c 0)) (C7 (g.inst d) (.bc true))
 |.asl b r n g,.eslc i=>DQ (Hh (n.inst d) (.c 0)) (C7 (g.inst d) i)
 |.eslc g,.eslc i=>C7 (g.inst d) i
 |.eslc g,.slice0=>C7 (g.inst d) (.bc true)
 |.nmap b g,.nmap j i=>DO (toB h b j) (C7 (g.inst d) i)
 |.nmap b g,.map j=>DO (toB h b j) (C7 (g.inst d) (.bc false))
 |.nmap _ g,.map0=>C7 (g.inst d) (.bc true)
 |_,_=>none
termination_by structural a=>a
def FZ (d:List SE) (h:List Nat):List AV→List AV→Option Obs
 |[],[]=>some []
 |a::l,b::m=>DQ (CO d h a b) (FZ d h l m)
 |_,_=>none
termination_by structural l=>l
end
@[reducible] def G7:Unk:={facts:=[],V:=⟨fun _=>default,fun _ d=>d⟩,K:=fun _=>none,R:=[],hR:=fun _ _ _ _ _ h=>(by cases h),ok:=by simp}
theorem Obs.append {V:Val} {a b:Obs} (h:Obs.holds V (a++b)):Obs.holds V a∧Obs.holds V b:=
 ⟨fun x y l=>h x y (by simp [l]),fun x y l=>h x y (by simp [l])⟩
theorem GT {V:Val} {a b:SE} {o:Obs} (h:Kz a b=some o) (d:o.holds V):Ab V a=Ab V b:=by
 unfold Kz at h;split at h
 ·rename_i c;rw [SE.same_ok (U:=G7) c]
 ·split at h
  ·rename_i c;have:=congrArg (Ab V) (SE.same_ok (U:=G7) c)
   rwa [Cs,Cs] at this
  ·cases h;exact d a b (by simp)
theorem P3 {V:Val} {a b:SE} {o:Obs} (h:Hh a b=some o) (d:o.holds V):Ac V a=Ac V b:=by
 unfold Hh at h;split at h
 ·rename_i c;rw [SE.same_ok (U:=G7) c]
 ·split at h
  ·rename_i c;have:=congrArg (Ab V) (SE.same_ok (U:=G7) c);rw [Cs,Cs] at this;unfold Ac;rw [this]
  ·cases h;have:=d (.eql a b) (.bc true) (by simp)
   simp only [Ab,D.bool.injEq] at this;exact eq_of_beq this
theorem IW {V:Val} {a b:SE} {o:Obs} (h:C7 a b=some o) (d:o.holds V):Ad V a=Ad V b:=by
 unfold C7 at h;split at h
 ·rename_i c;rw [SE.same_ok (U:=G7) c]
 ·split at h
  ·rename_i c;have:=congrArg (Ab V) (SE.same_ok (U:=G7) c);rw [Cs,Cs] at this;unfold Ad;rw [this]
  ·cases h;have:=d (.and a (.bc true)) (.and b (.bc true)) (by simp)
   simp only [Ab,D.bool.injEq,D.toBool,Bool.and_true] at this;exact this
theorem BK {a b:Option Obs} {o:Obs} (h:DQ a b=some o):∃x y,a=some x∧b=some y∧o=x++y:=by
 unfold DQ at h;split at h
 ·cases h;exact ⟨_,_,rfl,rfl,rfl⟩
 ·cases h
theorem A2 {c:Bool} {a:Option Obs} {o:Obs} (h:DO c a=some o):c=true∧a=some o:=by
 cases c with
 |true=>exact ⟨rfl,h⟩
 |false=>cases h
def Ren.back (ρ:Ren) (l:List Nat):Ren:=⟨fun b=>(l[b]?).bind ρ.m,ρ.imm⟩
theorem E2 {a:List Nat} {b c:Nat} (h:toB a b c=true) (ρ:Ren):(ρ.back a).m b=ρ c:=by
 unfold toB at h;split at h
 ·rename_i d e;rw [Ay h] at e;simp [Ren.back,e]
 ·cases h
section
variable {U W:Unk} {θ:List SE} (hV:W.V=U.V.inst θ) (hK:W.K=U.K) {β:List Nat} {ρ:Ren}
include hV hK
theorem S6 {f g:Fn} {a:Fn} (h:Y6 β f g=true) (b:FnR ρ g a):FnR (ρ.back β) f a:=by
 cases f<;>cases g<;>simp only [Y6,Bool.false_eq_true] at h
 ·rw [Ay h];exact b
 ·obtain ⟨base,c,d⟩:=b;exact ⟨base,by rw [E2 h];exact c,d⟩
mutual
theorem G5:∀(a b:AV) (o:Obs) (v:Value),CO θ β a b=some o→o.holds U.V→@VR U.toVals ρ b v→@VR W.toVals (ρ.back β) a v
 |.top,_,_,v,_,_,_=>@VR.top W.toVals _ v
 |.bool a,b,o,v,h,g,d=>by
  cases b<;>simp only [CO,reduceCtorEq] at h
  obtain ⟨i,_⟩:=A2 h;cases d;have:=eq_of_beq i;subst this;exact @VR.bool W.toVals _ _
 |.int k a,b,o,v,h,g,d=>by
  cases b<;>simp only [CO,reduceCtorEq] at h
  obtain ⟨i,_⟩:=A2 h;cases d;simp only [Bool.and_eq_true,decide_eq_true_eq,beq_iff_eq] at i;obtain ⟨rfl,rfl⟩:=i;exact @VR.int W.toVals _ _ _
 |.str l a,b,o,v,h,g,d=>by
  cases b<;>simp only [CO,reduceCtorEq] at h
  obtain ⟨i,_⟩:=A2 h;obtain ⟨j,A⟩:=An i;rw [Ay j,Ay A];cases d;exact @VR.str W.toVals _ _
 |.ptr0,b,o,v,h,g,d=>by
  cases b<;>simp only [CO,reduceCtorEq] at h
  cases d;exact @VR.ptr0 W.toVals _
 |.ptr b off,x,o,v,h,g,d=>by
  cases x<;>simp only [CO,reduceCtorEq] at h
  obtain ⟨i,_⟩:=A2 h;obtain ⟨j,A⟩:=An i;cases d with
  |ptr _ _ base F=>
   rw [Ay A];exact @VR.ptr W.toVals _ _ _ base (by rw [E2 j];exact F)
 |.slice0,b,o,v,h,g,d=>by
  cases b<;>simp only [CO,reduceCtorEq] at h
  cases d;exact @VR.slice0 W.toVals _
 |.slice b off n J,x,o,v,h,g,d=>by
  cases x<;>simp only [CO,reduceCtorEq] at h
  obtain ⟨i,_⟩:=A2 h;obtain ⟨j,A⟩:=An i;obtain ⟨G,h5⟩:=An j;obtain ⟨L,M⟩:=An G;rw [Ay A,Ay h5,Ay M];cases d with
  |slice _ _ _ _ H base F N O=>exact @VR.slice W.toVals _ _ _ _ _ H base (by rw [E2 L];exact F) N O
  |sliceEnd _ _ _ a=>exact @VR.sliceEnd W.toVals _ _ _ _ a
 |.map0,b,o,v,h,g,d=>by
  cases b<;>simp only [CO,reduceCtorEq] at h
  cases d;exact @VR.map0 W.toVals _
 |.map b,x,o,v,h,g,d=>by
  cases x<;>simp only [CO,reduceCtorEq] at h
  obtain ⟨i,_⟩:=A2 h;cases d with
  |map _ base F=>exact @VR.map W.toVals _ _ base (by rw [E2 i];exact F)
 |.func fn f c,x,o,v,h,g,d=>by
  cases x<;>simp only [CO,reduceCtorEq] at h
  obtain ⟨i,j⟩:=A2 h;obtain ⟨o1,o2,A,G,rfl⟩:=BK j;obtain ⟨u,w⟩:=Obs.append g;cases d with
  |func _ aa _ _ f' c' P Q r3 r4 r5=>
   have X:=DB f _ o1 f' A u ⟨Q,r3⟩;have Y:=DB c _ o2 c' G w ⟨r4,r5⟩;exact @VR.func W.toVals _ fn aa f c f' c' (S6 hV hK i P) X.1 X.2 Y.1 Y.2
 |.nilFunc,b,o,v,h,g,d=>by
  cases b<;>simp only [CO,reduceCtorEq] at h
  cases d;exact @VR.nilFunc W.toVals _
 |.iface t a,x,o,v,h,g,d=>by
  cases x<;>simp only [CO,reduceCtorEq] at h
  obtain ⟨i,j⟩:=A2 h;rw [Ay i];cases d with
  |iface _ _ v' ab=>exact @VR.iface W.toVals _ _ a v' (G5 a _ o v' j g ab)
 |.nilIface,b,o,v,h,g,d=>by
  cases b<;>simp only [CO,reduceCtorEq] at h
  cases d;exact @VR.nilIface W.toVals _
 |.agg l,x,o,v,h,g,d=>by
  cases x<;>simp only [CO,reduceCtorEq] at h
  cases d with
  |agg _ R P Q=>
   have q:=DB l _ o R h g ⟨P,Q⟩;exact @VR.agg W.toVals _ l R q.1 q.2
 |.tuple l,x,o,v,h,g,d=>by
  cases x<;>simp only [CO,reduceCtorEq] at h
  cases d with
  |tuple _ R P Q=>
   have q:=DB l _ o R h g ⟨P,Q⟩;exact @VR.tuple W.toVals _ l R q.1 q.2
 |.sb p e,x,o,v,h,g,d=>by
  have key:∀{y:SE},C7 (e.inst θ) y=some o→Ad W.V e=Ad U.V y:=by
   intro y B;rw [hV,←Ff];exact IW B g
  cases x<;>simp only [CO,reduceCtorEq] at h
  ·have:=key h;cases d;rename_i b;have q:=@VR.sb W.toVals (ρ.back β) p e;rw [this] at q;have C:((Ad U.V (.bc (b==p)))==p)=b:=by show ((b==p)==p)=b;cases b<;>cases p<;>rfl
   rw [C] at q;exact q
  ·split at h
   ·rename_i i;have:=key h;cases d;have S:=eq_of_beq i;subst S;rw [←this];exact @VR.sb W.toVals _ p e
   ·rename_i p' y _ i;have:=key h;cases d;have q:=@VR.sb W.toVals (ρ.back β) p e;rw [this] at q
    have C:(Ad U.V (.neg y)==p)=(Ad U.V y==p'):=by
     show ((!(Ad U.V y))==p)=_;cases p<;>cases p'<;>cases Ad U.V y<;>first|rfl | (simp at i)
    rw [C] at q;exact q
 |.si k e,x,o,v,h,g,d=>by
  have key:∀{y:SE},Hh (e.inst θ) y=some o→Ac W.V e=Ac U.V y:=by
   intro y B;rw [hV,←Nz];exact P3 B g
  cases x<;>simp only [CO,reduceCtorEq] at h
  ·obtain ⟨i,j⟩:=A2 h;have:=key j;cases d;have S:=of_decide_eq_true i;subst S;have q:=@VR.si W.toVals (ρ.back β) k e;rw [this,BD] at q;exact q
  ·obtain ⟨i,j⟩:=A2 h;have:=key j;cases d;have S:=of_decide_eq_true i;subst S;rw [←this];exact @VR.si W.toVals _ k e
 |.ss e,x,o,v,h,g,d=>by
  have key:∀{y:SE},Kz (e.inst θ) y=some o→AR W.V e=AR U.V y:=by
   intro y B;unfold AR;rw [hV,←B4,GT B g]
  cases x<;>simp only [CO,reduceCtorEq] at h
  ·have:=key h;cases d;rename_i s;have q:=@VR.ss W.toVals (ρ.back β) e;rw [this] at q
   have C:AR U.V (.strc s.data.toList.length (AA s.data.toList))=s:=by
    show (⟨(C1 _ _).toArray⟩:ByteArray)=s;rw [DX (U:=U)]
   rw [C] at q;exact q
  ·have:=key h;cases d;rw [←this];exact @VR.ss W.toVals _ e
 |.dat t e,x,o,v,h,g,d=>by
  have key:∀{y:SE},Kz (e.inst θ) y=some o→Ab W.V e=Ab U.V y:=by
   intro y B;rw [hV,←B4,GT B g]
  cases x<;>simp only [CO,reduceCtorEq] at h
  ·have:=key h;cases d;exact @VR.dat W.toVals _ t e _ _ _ (by rw [this];exact .nil t _ rfl rfl)
  ·obtain ⟨i,j⟩:=A2 h;have:=key j;rw [Ay i];cases d with
   |dat _ _ a n c hd=>exact @VR.dat W.toVals _ _ e a n c (by rw [this,hK];exact hd)
 |.dptr _ _ _ _,x,o,v,h,g,d=>by cases x<;>simp only [CO,reduceCtorEq] at h
 |.asl b J n z,x,o,v,h,g,d=>by
  have D:∀{a b:SE} {o:Obs},Hh (a.inst θ) b=some o→o.holds U.V→Ac W.V a=Ac U.V b:=by
   intro a b o B g;rw [hV,←Nz];exact P3 B g
  have E:∀{a b:SE} {o:Obs},C7 (a.inst θ) b=some o→o.holds U.V→Ad W.V a=Ad U.V b:=by
   intro a b o B g;rw [hV,←Ff];exact IW B g
  cases x<;>simp only [CO,reduceCtorEq] at h
  ·
   obtain ⟨o1,o2,A,G,rfl⟩:=BK h;obtain ⟨u,w⟩:=Obs.append g;have k1:=D A u;have k2:=E G w;cases d;exact @VR.aslEnd W.toVals _ b J n z none (by rw [k1];rfl) (by rw [k2];rfl)
  ·
   rename_i b' o' n' ac;obtain ⟨i,j⟩:=A2 h;obtain ⟨h5,L⟩:=An i;obtain ⟨M,h8⟩:=An h5;obtain ⟨o1,o2,A,G,rfl⟩:=BK j;obtain ⟨u,w⟩:=Obs.append g;have k1:=D A u;have k2:=E G w;have C:Ac W.V n=n':=by rw [k1];rfl
   have T:Ad W.V z=false:=by rw [k2];rfl
   have e3:=Ay h8;have e4:=Ay L;subst e3;subst e4;cases d with
   |slice _ _ _ _ H base F N O=>
    have q:=@VR.asl W.toVals (ρ.back β) b J n z H base (by rw [E2 M];exact F) (by rw [C];exact Int.natCast_nonneg _) (by rw [C];simpa using N) (by simpa using O) T
    rw [C] at q;simpa using q
   |sliceEnd _ _ _ a=>exact @VR.aslEnd W.toVals _ b J n z (some a) (by rw [C];rfl) (by rw [T];rfl)
  ·
   rename_i b' ac n' ad;obtain ⟨i,j⟩:=A2 h;obtain ⟨M,L⟩:=An i;obtain ⟨o1,o2,A,G,rfl⟩:=BK j;obtain ⟨u,w⟩:=Obs.append g;have k1:=D A u;have k2:=E G w;have C:Ac W.V n=Ac U.V n':=k1;have T:Ad W.V z=Ad U.V ad:=k2;have e4:=Ay L;subst e4;cases d with
   |asl _ _ _ _ H base F h0 N O I=>
    rw [←C];exact @VR.asl W.toVals _ b J n z H base (by rw [E2 M];exact F) (by rw [C];exact h0) (by rw [C];exact N) O (by rw [T];exact I)
   |aslEnd _ _ _ _ a h0 I=>exact @VR.aslEnd W.toVals _ b J n z a (by rw [C];exact h0) (by rw [T];exact I)
  ·
   obtain ⟨o1,o2,A,G,rfl⟩:=BK h;obtain ⟨u,w⟩:=Obs.append g;have k1:=D A u;have k2:=E G w;cases d with
   |eslc _ a I=>exact @VR.aslEnd W.toVals _ b J n z a (by rw [k1];rfl) (by rw [I];exact k2.symm)
 |.eslc z,x,o,v,h,g,d=>by
  have key:∀{b:SE},C7 (z.inst θ) b=some o→Ad W.V z=Ad U.V b:=by
   intro b B;rw [hV,←Ff];exact IW B g
  cases x<;>simp only [CO,reduceCtorEq] at h
  ·have:=key h;cases d;exact @VR.eslc W.toVals _ z none (by rw [this];rfl)
  ·have:=key h;cases d with
   |eslc _ a I=>exact @VR.eslc W.toVals _ z a (by rw [I,this])
 |.aptr _ _ _ _,x,o,v,h,g,d=>by cases x<;>simp only [CO,reduceCtorEq] at h
 |.nmap b z,x,o,v,h,g,d=>by
  have key:∀{b:SE},C7 (z.inst θ) b=some o→Ad W.V z=Ad U.V b:=by
   intro b B;rw [hV,←Ff];exact IW B g
  cases x<;>simp only [CO,reduceCtorEq] at h
  ·have:=key h;cases d;exact @VR.nmap0 W.toVals _ b z (by rw [this];rfl)
  ·obtain ⟨i,j⟩:=A2 h;have:=key j;cases d with
   |map _ base F=>exact @VR.nmap W.toVals _ b z base (by rw [E2 i];exact F) (by rw [this];rfl)
  ·obtain ⟨i,j⟩:=A2 h;have:=key j;cases d with
   |nmap _ _ base F I=>exact @VR.nmap W.toVals _ b z base (by rw [E2 i];exact F) (by rw [this];exact I)
   |nmap0 _ _ I=>exact @VR.nmap0 W.toVals _ b z (by rw [this];exact I)
theorem DB:∀(a b:List AV) (o:Obs) (Z:List Value),FZ θ β a b=some o→o.holds U.V→@VL U.toVals ρ b Z→@VL W.toVals (ρ.back β) a Z
 |[],b,o,Z,h,g,d=>by
  cases b with
  |nil=>have:=VL.nil_inv (U:=U.toVals) d;subst this;exact VL.nil (U:=W.toVals) _
  |cons=>cases h
 |a::l,b,o,Z,h,g,d=>by
  cases b with
  |nil=>cases h
  |cons b m=>
   simp only [FZ] at h;obtain ⟨o1,o2,i,j,rfl⟩:=BK h;obtain ⟨u,w⟩:=Obs.append g;obtain ⟨v,r,rfl,X,Y⟩:=VL.cons_inv (U:=U.toVals) d;exact VL.cons (U:=W.toVals) (G5 a b o1 v i u X) (DB l m o2 r j w Y)
end
end
end Go.AE
namespace Go.AE
variable [Gl:AH]
def jM (c:List SE) (d:List Nat):Option AV→Option AV→Option Obs
 |none,_=>some []
 |some a,some b=>CO c d a b
 |some _,none=>none
def leT (a:List SE) (b:List Nat):T AV→T AV→Option Obs
 |.nil,_=>some []
 |.node v l r,.node c d e=>DQ (jM a b v c) (DQ (leT a b l d) (leT a b r e))
 |.node _ _ _,.nil=>none
def Zd (c:List SE) (d:List Nat):List Aj→List Aj→Option Obs
 |[],[]=>some []
 |a::l,b::m=>DO (Nat.beq a.born b.born) (DQ (CO c d a.key b.key) (DQ (CO c d a.val b.val) (Zd c d l m)))
 |_,_=>none
def dR:LoopState→LoopState→Bool
 |.ready,.ready=>true
 |.busy,.busy=>true
 |.done,.done=>true
 |.exhausted,.exhausted=>true
 |_,_=>false
theorem Y2 {a b:LoopState} (h:dR a b=true):a=b:=by cases a<;>cases b<;>first|rfl | (cases h;done)
def PK [Facts] (E:Env) (g:List SE) (m:List Nat):Ag→Ag→Option Obs
 |.cells n c,.cells A B=>DO (Nat.beq n A) (leT g m c B)
 |.arr e x,.arr C p=>DO (Nat.beq e C) (Kz (x.inst g) p)
 |.arr e x,.cells n c=>match E.kinds e with
  |some ks=>match Nat.beq (n/ks.length*ks.length) n,c.range 0 n with
   |true,some l=>match DJ ks (n/ks.length) .emptyL l with
    |some y=>Kz (x.inst g) y
    |none=>none
   |_,_=>none
  |none=>none
 |.map o k,.map q r=>DO (Nat.beq k r) (Zd g m o q)
 |.dmap k v x,.dmap r D p=>DO (Nat.beq k r&&Nat.beq v D) (Kz (x.inst g) p)
 |.dmap k v x,.map o h=>match E.kinds k,E.kinds v with
  |some s,some t=>match MB s t .emptyL o with
   |some y=>DO (OW 0 o h) (Kz (x.inst g) y)
   |none=>none
  |_,_=>none
 |.deferred none,.deferred none=>some []
 |.deferred (some []),.deferred (some [])=>some []
 |.loop st pending fn nt tmps params assign body d,.loop u a w z i b f j F=>
  DO (dR st u&&QE Ci pending a&&Nat.beq fn w&&Nat.beq nt z&&FqQ Nat.beq params b&&toB m d F) (DO (Ci assign f&&Ci body j) (leT g m tmps i))
 |_,_=>none
def bN [Facts] (E:Env) (a:List SE) (b:List Nat):Option Ag→Option Ag→Option Obs
 |none,_=>some []
 |some x,some y=>PK E a b x y
 |some _,none=>none
def Eo [Facts] (E:Env) (a:List SE) (c:List Nat) (h:Aa):List (Option Ag)→List Nat→Option Obs
 |[],[]=>some []
 |o::r,b::d=>DQ (bN E a c o (h.blk.get b)) (Eo E a c h r d)
 |_,_=>none
def E3:List Nat→Bool
 |[]=>true
 |b::r=>!Hy b r&&E3 r
def Cc:List (Option Ag)→Nat→T Ag→T Ag
 |[],_,t=>t
 |some x::r,i,t=>Cc r (i+1) (t.set i x)
 |none::r,i,t=>Cc r (i+1) t
def A8 (l:List (Option Ag)):T Ag:=Cc l 0 .nil
theorem LN:∀(l:List (Option Ag)) (i:Nat) (t:T Ag) (j:Nat),(∀q,i≤q→t.get q=none)→(Cc l i t).get j=if i≤j then (l[j-i]?).join else t.get j:=by
 intro l
 induction l with
 |nil=>
  intro i t j b;simp only [Cc];by_cases h:i≤j
  ·rw [if_pos h,b j h];rfl
  ·rw [if_neg h]
 |cons o r ih=>
  intro i t j b
  have key:∀a,(∀q,i+1≤q→a.get q=none)→a.get i=o→(∀q,q<i→a.get q=t.get q)→(Cc r (i+1) a).get j=if i≤j then ((o::r)[j-i]?).join else t.get j:=by
   intro a d e f;rw [ih (i+1) a j d];by_cases c1:i+1≤j
   ·rw [if_pos c1,if_pos (by omega),show j-i=(j-(i+1))+1 by omega,List.getElem?_cons_succ]
   ·rw [if_neg c1];by_cases c2:i=j
    ·subst c2;rw [if_pos (Nat.le_refl _),e];simp
    ·rw [if_neg (by omega),f j (by omega)]
  cases o with
  |some x=>
   simp only [Cc];refine key _ (fun q c=>?_) ?_ (fun q c=>?_)
   ·rw [T.get_set,if_neg (by omega),b q (by omega)]
   ·rw [T.get_set,if_pos rfl]
   ·rw [T.get_set,if_neg (by omega)]
  |none=>
   simp only [Cc];exact key _ (fun q c=>b q (by omega)) (b i (Nat.le_refl _)) (fun q c=>rfl)
theorem Cj (l:List (Option Ag)) (j:Nat):(A8 l).get j=(l[j]?).join:=by
 rw [A8,LN _ _ _ _ (fun q _=>T.get_nil _),if_pos (Nat.zero_le _)];simp
theorem Gs {b:Nat}:∀{l:List Nat},b∈l→Hy b l=true
 |c::r,h=>by
  simp only [Hy,Bool.or_eq_true];rcases List.mem_cons.1 h with rfl|h
  ·exact .inl (Fe b)
  ·exact .inr (Gs h)
def EV (b:Nat):List (Option Ag)→List Nat→Bool
 |some _::r,c::a=>Nat.beq b c||EV b r a
 |none::r,_::a=>EV b r a
 |_,_=>false
def FC:List (Option Ag)→List Nat→Bool
 |some _::r,b::a=>!EV b r a&&FC r a
 |none::r,_::a=>FC r a
 |_,_=>true
theorem GU {b:Nat}:∀{l:List (Option Ag)} {e:List Nat},EV b l e=false→∀{j:Nat} {x:Ag},l[j]?=some (some x)→e[j]?=some b→False
 |[],_,_,j,x,d,_=>by simp at d
 |_::_,[],_,j,x,_,a=>by simp at a
 |some y::r,c::e,h,j,x,d,a=>by
  simp only [EV,Bool.or_eq_false_iff] at h;cases j with
  |zero=>simp only [List.getElem?_cons_zero,Option.some.injEq] at a;subst a;rw [Nat.beq_refl] at h;exact absurd h.1 (by simp)
  |succ j=>exact GU h.2 (by simpa using d) (by simpa using a)
 |none::r,c::e,h,j,x,d,a=>by
  simp only [EV] at h;cases j with
  |zero=>simp at d
  |succ j=>exact GU h (by simpa using d) (by simpa using a)
theorem JD:∀{l:List (Option Ag)} {f:List Nat},FC l f=true→∀{i j b:Nat} {x y:Ag},l[i]?=some (some x)→l[j]?=some (some y)→f[i]?=some b→f[j]?=some b→i=j
 |[],_,_,i,j,b,x,y,d,_,_,_=>by simp at d
 |_::_,[],_,i,j,b,x,y,_,_,a,_=>by simp at a
 |none::r,c::f,h,i,j,b,x,y,d,g,a,e=>by
  simp only [FC] at h;cases i with
  |zero=>simp at d
  |succ i=>
   cases j with
   |zero=>simp at g
   |succ j=>exact congrArg (· + 1) (JD h (i:=i) (j:=j) (b:=b) (x:=x) (y:=y) (by simpa using d) (by simpa using g) (by simpa using a) (by simpa using e))
 |some z::r,c::f,h,i,j,b,x,y,d,g,a,e=>by
  simp only [FC,Bool.and_eq_true,Bool.not_eq_true'] at h;cases i with
  |zero=>
   simp only [List.getElem?_cons_zero,Option.some.injEq] at a;subst a;cases j with
   |zero=>rfl
   |succ j=>exact (GU h.1 (by simpa using g) (by simpa using e)).elim
  |succ i=>
   cases j with
   |zero=>
    simp only [List.getElem?_cons_zero,Option.some.injEq] at e;subst e;exact (GU h.1 (by simpa using d) (by simpa using a)).elim
   |succ j=>exact congrArg (· + 1) (JD h.2 (i:=i) (j:=j) (b:=b) (x:=x) (y:=y) (by simpa using d) (by simpa using g) (by simpa using a) (by simpa using e))
theorem Nr:∀{l:List Nat},E3 l=true→∀{i j b:Nat},l[i]?=some b→l[j]?=some b→i=j
 |[],_,i,j,b,h,_=>by simp at h
 |c::r,h,i,j,b,hi,a=>by
  simp only [E3,Bool.and_eq_true,Bool.not_eq_true'] at h;cases i with
  |zero=>
   simp only [List.getElem?_cons_zero,Option.some.injEq] at hi;subst hi;cases j with
   |zero=>rfl
   |succ j=>
    simp only [List.getElem?_cons_succ] at a;rw [Gs (List.mem_of_getElem? a)] at h;cases h.1
  |succ i=>
   simp only [List.getElem?_cons_succ] at hi;cases j with
   |zero=>
    simp only [List.getElem?_cons_zero,Option.some.injEq] at a;subst a;rw [Gs (List.mem_of_getElem? hi)] at h;cases h.1
   |succ j=>
    simp only [List.getElem?_cons_succ] at a;rw [Nr h.2 hi a]
section
variable {U W:Unk} {θ:List SE} (hV:W.V=U.V.inst θ) (hK:W.K=U.K) {β:List Nat} {ρ:Ren} {E:Env}
include hV hK
theorem YW {a b:Option AV} {o:Obs} (h:jM θ β a b=some o) (c:o.holds U.V) {x:AV} (d:a=some x):∃y,b=some y∧∀v,@VR U.toVals ρ y v→@VR W.toVals (ρ.back β) x v:=by
 subst d;cases b with
 |none=>cases h
 |some y=>exact ⟨y,rfl,fun v e=>G5 hV hK x y o v h c e⟩
theorem LG:∀(p a:T AV) (o:Obs),leT θ β p a=some o→o.holds U.V→∀i x,p.get i=some x→∃y,a.get i=some y∧∀v,@VR U.toVals ρ y v→@VR W.toVals (ρ.back β) x v
 |.nil,a,o,h,c,i,x,b=>by simp [T.get_nil] at b
 |.node v l r,.nil,o,h,c,i,x,b=>by cases h
 |.node v l r,.node t j k,o,h,c,i,x,b=>by
  simp only [leT] at h;obtain ⟨o1,o2,m,n,rfl⟩:=BK h;obtain ⟨o3,o4,q,s,rfl⟩:=BK n;obtain ⟨d,e⟩:=Obs.append c;obtain ⟨f,g⟩:=Obs.append e;simp only [T.get_eq,T.get0] at b ⊢;split at b
  ·exact YW hV hK m d b
  ·split at b
   ·simp only [←T.get_eq] at b ⊢;exact LG l j o3 q f _ x b
   ·simp only [←T.get_eq] at b ⊢;exact LG r k o4 s g _ x b
theorem S9:∀(p a:List Aj) (o:Obs) (c:List MapEntry),Zd θ β p a=some o→o.holds U.V→@ER U.toVals ρ a c→@ER W.toVals (ρ.back β) p c
 |[],[],o,c,h,k,d=>by cases c<;>simp_all [ER]
 |a::l,b::m,o,c,h,k,d=>by
  simp only [Zd] at h;obtain ⟨n,h⟩:=A2 h;obtain ⟨o1,o2,q,s,rfl⟩:=BK h;obtain ⟨o3,o4,t,u,rfl⟩:=BK s;obtain ⟨f,g⟩:=Obs.append k;obtain ⟨i,j⟩:=Obs.append g;cases c with
  |nil=>simp [ER] at d
  |cons e r=>
   obtain ⟨v,w,x,y⟩:=d;exact ⟨G5 hV hK _ _ _ _ q f v,G5 hV hK _ _ _ _ t i w,by rw [x,Ay n],S9 l m o4 r u j y⟩
 |[],_::_,o,c,h,_,_=>by cases h
 |_::_,[],o,c,h,_,_=>by cases h
theorem VX (hE:@OK _ U E) {x y:Ag} {o:Obs} {base:Br} {ob:Option Obj} (h:@PK U.toFacts E θ β x y=some o) (z:o.holds U.V) (s:@BR U.toVals ρ y base ob):@BR W.toVals (ρ.back β) x base ob:=by
 unfold PK at h;split at h
 ·
  rename_i n c n' Z;obtain ⟨d,t⟩:=A2 h;rw [Ay d];obtain ⟨f,e,D,r,j,b3,b4,A⟩:=s;refine ⟨f,e,D,r,j,b3,b4,fun i a hi H=>?_⟩
  obtain ⟨y,F,C⟩:=LG hV hK (ρ:=ρ) c Z o t z i a H;obtain ⟨v,J,L⟩:=A i y hi F;exact ⟨v,J,C v L⟩
 ·
  rename_i e x e' M;obtain ⟨d,t⟩:=A2 h;rw [Ay d];obtain ⟨ks,f,N,D,r,j,b3,b4,A⟩:=s;have u:Ab W.V x=Ab U.V M:=by rw [hV,←B4,GT t z]
  exact ⟨ks,f,N,D,by rw [hK];exact r,j,b3,b4,by rw [u,hK];exact A⟩
 ·
  rename_i e x n c;split at h
  ·rename_i ks O;split at h
   ·rename_i l hn hl;split at h
    ·rename_i y P;obtain ⟨f,N,D,r,j,b3,b4,A⟩:=s;have B:U.K e=some ks:=by rw [OK.kd (U:=U) hE,←OK.ke (U:=U) hE];exact O
     have u:Ab W.V x=Ab U.V y:=by rw [hV,←B4,GT h z]
     obtain ⟨l1,l2⟩:=T.range_spec c _ _ _ hl
     have Q:@VL U.toVals ρ l ((f.toList.drop base.co).take n):=by
      refine ⟨by simp [l1];omega,fun i a v H I=>?_⟩
      have hi:i<n:=by have:=(List.getElem?_eq_some_iff.1 H).1;omega
      have:=l2 i hi;rw [Nat.zero_add,H] at this;obtain ⟨v',J,L⟩:=A i a hi this;rw [List.getElem?_take,if_pos hi,List.getElem?_drop,Array.getElem?_toList,J] at I;cases I;exact L
     obtain ⟨rs,X,R,r3⟩:=@Fa _ U ρ ks _ _ _ _ _ P Q;have er:(Ab U.V y).rows=rs:=by rw [R];rfl
     have w:((f.toList.drop base.co).take n).length=n:=by simp;omega
     refine ⟨ks,f,N,D,by rw [hK];exact B,r,j,b4,?_⟩
     rw [u,er,hK]
     exact r3.at (by rw [w,j];exact b3) (fun q Y=>by
      rw [w] at Y;rw [List.getElem?_take,if_pos Y,List.getElem?_drop,Array.getElem?_toList])
    ·cases h
   ·cases h
  ·cases h
 ·
  obtain ⟨d,t⟩:=A2 h;rw [Ay d];obtain ⟨g,r,j⟩:=s;exact ⟨g,r,S9 hV hK _ _ _ _ t z j⟩
 ·
  rename_i k v x k' v' M;obtain ⟨d,t⟩:=A2 h;obtain ⟨c1,c2⟩:=An d;rw [Ay c1,Ay c2];obtain ⟨m,p,g,b,r,j,b3,b4,A⟩:=s;have u:Ab W.V x=Ab U.V M:=by rw [hV,←B4,GT t z]
  exact ⟨m,p,g,b,by rw [hK];exact r,by rw [hK];exact j,b3,by rw [u,hK];exact b4,A⟩
 ·
  rename_i k v x es b;split at h
  ·rename_i m p O I;split at h
   ·rename_i y P;obtain ⟨G,h⟩:=A2 h;obtain ⟨g,r,j⟩:=s;have B:U.K k=some m:=by rw [OK.kd (U:=U) hE,←OK.ke (U:=U) hE];exact O
    have S:U.K v=some p:=by rw [OK.kd (U:=U) hE,←OK.ke (U:=U) hE];exact I
    have u:Ab W.V x=Ab U.V y:=by rw [hV,←B4,GT h z]
    have q:A7 U.K ρ.imm m p ([]++g) (Ab U.V y).rows:=@Mq _ U ρ m p _ _ _ _ [] P j trivial;rw [List.nil_append] at q;exact ⟨m,p,g,b,by rw [hK];exact B,by rw [hK];exact S,r,by rw [u,hK];exact q,(@OB _ U.toVals ρ es g 0 b G j).2⟩
   ·cases h
  ·cases h
 ·exact s
 ·obtain ⟨l',F,C⟩:=s;cases l' with
  |nil=>exact ⟨[],trivial,C⟩
  |cons=>exact F.elim
 ·
  obtain ⟨d,t⟩:=A2 h;obtain ⟨h3,h4⟩:=A2 t;obtain ⟨d,c6⟩:=An d;obtain ⟨d,c5⟩:=An d;obtain ⟨d,c4⟩:=An d;obtain ⟨d,c3⟩:=An d;obtain ⟨c1,c2⟩:=An d;obtain ⟨c7,c8⟩:=An h3;have u:=Y2 c1;have e2:=I7 (fun _ _=>D6) c2
  have e3:=Ay c3;have e4:=Ay c4;have e5:=G1 (fun _ _=>AX) c5
  have e7:=D6 c7;have e8:=D6 c8;subst u;subst e2;subst e3;subst e4;subst e5;subst e7;subst e8;obtain ⟨tm,bd,F,C,q3⟩:=s;refine ⟨tm,bd,by rw [E2 c6];exact F,@TR.mk W.toVals (ρ.back β) _ _ _ (@TR.size U.toVals ρ _ _ _ C) (fun i x hx=>?_),q3⟩
  obtain ⟨y,X,R⟩:=LG hV hK (ρ:=ρ) _ _ o h4 z i x hx;exact R _ (@TR.get U.toVals ρ _ _ _ C i y X)
 ·cases h
theorem De {h:Aa}:∀(l:List (Option Ag)) (d:List Nat) (o:Obs),@Eo U.toFacts E θ β h l d=some o→o.holds U.V→l.length=d.length∧∀(i:Nat) x,l[i]?=some (some x)→∃b y k,d[i]?=some b∧h.blk.get b=some y∧@PK U.toFacts E θ β x y=some k∧k.holds U.V
 |[],[],o,h,m=>⟨rfl,fun i x c=>by simp at c⟩
 |a::l,b::d,o,h,m=>by
  simp only [Eo] at h;obtain ⟨o1,o2,e,n,rfl⟩:=BK h;obtain ⟨f,g⟩:=Obs.append m;obtain ⟨p,q⟩:=De l d o2 n g;refine ⟨by simp [p],fun i x c=>?_⟩
  cases i with
  |zero=>
   simp only [List.getElem?_cons_zero,Option.some.injEq] at c;subst c;cases j:(_:Aa).blk.get b with
   |none=>rw [j] at e;cases e
   |some y=>rw [j] at e;exact ⟨b,y,o1,rfl,j,e,f⟩
  |succ i=>
   simp only [List.getElem?_cons_succ] at c ⊢;exact q i x c
 |[],_::_,o,h,_=>by cases h
 |_::_,[],o,h,_=>by cases h
theorem HR.toPatL (hE:@OK _ U E) {h:Aa} {w:World} {l:List (Option Ag)} {o:Obs} (hr:@HR _ U.toVals ρ h.blk.get w) (hl:@Eo U.toFacts E θ β h l β=some o) (ho:o.holds U.V) (hn:FC l β=true):@HR _ W.toVals (ρ.back β) (A8 l).get w:=by
 obtain ⟨q1,q2⟩:=De hV hK l β o hl ho
 have at_:∀b base,(ρ.back β).m b=some base→∃c,β[b]?=some c∧ρ c=some base:=by
  intro b base r;simp only [Ren.back] at r;cases hc:β[b]? with
  |none=>rw [hc] at r;cases r
  |some c=>rw [hc] at r;exact ⟨c,rfl,r⟩
 have live:∀b,(A8 l).get b≠none→∃x c y o',(A8 l).get b=some x∧β[b]?=some c∧h.blk.get c=some y∧@PK U.toFacts E θ β x y=some o'∧o'.holds U.V:=by
  intro b r;rw [Cj] at r ⊢;cases I:l[b]? with
  |none=>rw [I] at r;exact absurd rfl r
  |some ox=>
   cases ox with
   |none=>rw [I] at r;exact absurd rfl r
   |some x=>
    obtain ⟨c,y,o',a1,a2,a3,a4⟩:=q2 b x I;exact ⟨x,c,y,o',rfl,a1,a2,a3,a4⟩
 refine ⟨fun b base r=>?_,fun b base x r I=>?_,fun b b' base base' an r ar h1 h2=>?_,fun k arr hk=>HR.imm (U:=U.toVals) (ρ:=ρ) hr k arr hk,fun k arr b base hk r hl=>?_,HR.glob (U:=U.toVals) (ρ:=ρ) hr⟩
 ·obtain ⟨c,c1,c2⟩:=at_ b base r;exact HR.lt (U:=U.toVals) hr c base c2
 ·obtain ⟨x',c,y,o',e1,J,e3,e4,e5⟩:=live b (by rw [I];exact Option.some_ne_none _)
  rw [I] at e1;cases e1;obtain ⟨c',c1,c2⟩:=at_ b base r;rw [J] at c1;cases c1;exact VX hV hK hE e4 e5 (HR.blk (U:=U.toVals) hr c base y c2 e3)
 ·obtain ⟨c,c1,c2⟩:=at_ b base r;obtain ⟨c',ab,av⟩:=at_ b' base' ar;obtain ⟨_,d,y,_,_,J,e3,_,_⟩:=live b h1;obtain ⟨_,d',y',_,_,al,bd,_,_⟩:=live b' h2;rw [c1] at J;cases J;rw [ab] at al;cases al;refine HR.apart (U:=U.toVals) hr c c' base base' (fun e=>?_) c2 av (by rw [e3];exact Option.some_ne_none _) (by rw [bd];exact Option.some_ne_none _)
  subst e
  have t:∀b,(A8 l).get b≠none→∃x,l[b]?=some (some x):=by
   intro b r;rw [Cj] at r;cases I:l[b]? with
   |none=>rw [I] at r;exact absurd rfl r
   |some ox=>
    cases ox with
    |none=>rw [I] at r;exact absurd rfl r
    |some x=>exact ⟨x,rfl⟩
  obtain ⟨x1,l1⟩:=t b h1;obtain ⟨x2,l2⟩:=t b' h2;exact an (JD hn l1 l2 c1 ab)
 ·obtain ⟨c,c1,c2⟩:=at_ b base r;obtain ⟨_,d,y,_,_,J,e3,_,_⟩:=live b hl;rw [c1] at J;cases J;exact HR.off (U:=U.toVals) hr k arr c base hk c2 (by rw [e3];exact Option.some_ne_none _)
omit hV hK in
theorem Vw {l:List (Option Ag)} {bs:List Nat} (h:E3 bs=true):FC l bs=true:=by
 induction l generalizing bs with
 |nil=>rfl
 |cons o r ih=>
  cases bs with
  |nil=>cases o<;>rfl
  |cons b bs=>
   simp only [E3,Bool.and_eq_true,Bool.not_eq_true'] at h;cases o with
   |none=>exact ih h.2
   |some x=>
    simp only [FC,Bool.and_eq_true,Bool.not_eq_true'];refine ⟨?_,ih h.2⟩;cases hq:EV b r bs with
    |false=>rfl
    |true=>
     exfalso
     have:∀(r:List (Option Ag)) (bs:List Nat),EV b r bs=true→Hy b bs=true:=by
      intro r
      induction r with
      |nil=>intro bs h;cases bs<;>cases h
      |cons o r ih2=>
       intro bs h;cases bs with
       |nil=>cases o<;>cases h
       |cons c bs=>
        cases o with
        |none=>simp only [EV] at h;simp [Hy,ih2 bs h]
        |some x=>
         simp only [EV,Bool.or_eq_true] at h;simp only [Hy,Bool.or_eq_true];exact h.imp id (ih2 bs)
     rw [this r bs hq] at h;exact absurd h.1 (by simp)
theorem HR.toPat (hE:@OK _ U E) {h:Aa} {w:World} {l:List (Option Ag)} {o:Obs} (hr:@HR _ U.toVals ρ h.blk.get w) (t:@Eo U.toFacts E θ β h l β=some o) (I:o.holds U.V) (J:E3 β=true):@HR _ W.toVals (ρ.back β) (A8 l).get w:=
 HR.toPatL hV hK hE hr t I (Vw J)
end
end Go.AE
namespace Go.AE
variable [Gl:AH]
def Sr (a:List Nat):Fn→Fn
 |.yield l=>.yield (a.getD l 0)
 |f=>f
mutual
def AV.inst [Facts] (r:List SE) (I:List Nat):AV→AV
 |.top=>.top
 |.bool b=>.bool b
 |.int k n=>.int k n
 |.str l b=>.str l b
 |.ptr0=>.ptr0
 |.ptr b o=>.ptr (I.getD b 0) o
 |.slice0=>.slice0
 |.slice b o n es=>.slice (I.getD b 0) o n es
 |.map0=>.map0
 |.map b=>.map (I.getD b 0)
 |.func fn f c=>.func (Sr I fn) (AV.instL r I f) (AV.instL r I c)
 |.nilFunc=>.nilFunc
 |.iface t v=>.iface t (AV.inst r I v)
 |.nilIface=>.nilIface
 |.agg l=>.agg (AV.instL r I l)
 |.tuple l=>.tuple (AV.instL r I l)
 |.sb p e=>mkB p (e.inst r)
 |.si k e=>mkI k (e.inst r)
 |.ss x=>.ss (x.inst r)
 |.dat e x=>.dat e (x.inst r)
 |.dptr e x i off=>.dptr e (x.inst r) (i.inst r) off
 |.asl b es n J=>.asl (I.getD b 0) es (n.inst r) (J.inst r)
 |.eslc J=>.eslc (J.inst r)
 |.aptr b es i off=>.aptr (I.getD b 0) es (i.inst r) off
 |.nmap b J=>.nmap (I.getD b 0) (J.inst r)
 |.stamp b=>.stamp (I.getD b 0)
 |.glob g off=>.glob g off
 |.fsl b o n es=>.fsl (I.getD b 0) o n es
termination_by structural a=>a
def AV.instL [Facts] (r:List SE) (I:List Nat):List AV→List AV
 |[]=>[]
 |a::l=>AV.inst r I a::AV.instL r I l
termination_by structural l=>l
end
def T.mapA {t I:Type} (f:t→I):T t→T I
 |.nil=>.nil
 |.node v l r=>.node (match v with|some x=>some (f x)|none=>none) (l.mapA f) (r.mapA f)
def SF [Facts] (a:List SE) (b:List Nat):List Aj→List Aj
 |[]=>[]
 |e::r=>{key:=e.key.inst a b,val:=e.val.inst a b,born:=e.born}::SF a b r
def Ag.inst [Facts] (l:List SE) (r:List Nat):Ag→Option Ag
 |.cells n c=>some (.cells n (c.mapA (AV.inst l r)))
 |.arr e x=>some (.arr e (x.inst l))
 |.map t k=>some (.map (SF l r t) k)
 |.dmap k v x=>some (.dmap k v (x.inst l))
 |.deferred none=>some (.deferred none)
 |.deferred (some [])=>some (.deferred (some []))
 |.loop st pending fn nt tmps params assign body d=>some (.loop st pending fn nt (tmps.mapA (AV.inst l r)) params assign body (r.getD d 0))
 |_=>none
theorem T.get_mapA {I J:Type} (f:I→J):∀(t:T I) (i:Nat),(t.mapA f).get i=(t.get i).map f
 |.nil,i=>by rw [T.mapA,T.get_nil,T.get_nil];rfl
 |.node v l r,i=>by
  simp only [T.mapA,T.get_eq,T.get0];split
  ·cases v<;>rfl
  ·split
   ·simp only [←T.get_eq];exact T.get_mapA f l _
   ·simp only [←T.get_eq];exact T.get_mapA f r _
section
variable {U W:Unk} {θ:List SE} (hV:W.V=U.V.inst θ) (hK:W.K=U.K) {β:List Nat} {σ τ:Ren}
 (hβ:∀b base,σ b=some base→τ (β.getD b 0)=some base) (hM:∀k a,σ.imm k=some a→τ.imm k=some a)
include hV hK hβ hM
omit hK in
theorem Cl {e:SE}:Ab U.V (e.inst θ)=Ab W.V e:=by rw [B4,hV]
theorem UW {f g:Fn} (h:FnR σ f g):FnR τ (Sr β f) g:=by
 cases f<;>simp only [FnR,Sr] at h ⊢<;>first|exact h|skip
 obtain ⟨base,c,d⟩:=h;exact ⟨base,hβ _ _ c,d⟩
mutual
theorem FI:∀(a:AV) (v:Value),@VR W.toVals σ a v→@VR U.toVals τ (@AV.inst U.toFacts θ β a) v
 |.top,v,h=>@VR.top U.toVals _ v
 |.bool b,v,h=>by cases h;exact @VR.bool U.toVals _ _
 |.int k n,v,h=>by cases h;exact @VR.int U.toVals _ _ _
 |.str l b,v,h=>by cases h;exact @VR.str U.toVals _ _
 |.ptr0,v,h=>by cases h;exact @VR.ptr0 U.toVals _
 |.ptr b o,v,h=>by
  cases h with
  |ptr _ _ base j=>exact @VR.ptr U.toVals _ _ o base (hβ _ _ j)
 |.slice0,v,h=>by cases h;exact @VR.slice0 U.toVals _
 |.slice b o n s,v,h=>by
  cases h with
  |slice _ _ _ _ m base j G z=>exact @VR.slice U.toVals _ _ o n s m base (hβ _ _ j) G z
  |sliceEnd _ _ _ a=>exact @VR.sliceEnd U.toVals _ _ o s a
 |.map0,v,h=>by cases h;exact @VR.map0 U.toVals _
 |.map b,v,h=>by
  cases h with
  |map _ base j=>exact @VR.map U.toVals _ _ base (hβ _ _ j)
 |.func fn f c,v,h=>by
  cases h with
  |func _ H _ _ J L A B N O P=>
   have D:=GI f J ⟨B,N⟩;have E:=GI c L ⟨O,P⟩;exact @VR.func U.toVals _ _ H _ _ J L (UW hV hK hβ hM A) D.1 D.2 E.1 E.2
 |.nilFunc,v,h=>by cases h;exact @VR.nilFunc U.toVals _
 |.iface t a,v,h=>by
  cases h with
  |iface _ _ M Q=>exact @VR.iface U.toVals _ t _ M (FI a M Q)
 |.nilIface,v,h=>by cases h;exact @VR.nilIface U.toVals _
 |.agg l,v,h=>by
  cases h with
  |agg _ C A B=>
   have q:=GI l C ⟨A,B⟩;exact @VR.agg U.toVals _ _ C q.1 q.2
 |.tuple l,v,h=>by
  cases h with
  |tuple _ C A B=>
   have q:=GI l C ⟨A,B⟩;exact @VR.tuple U.toVals _ _ C q.1 q.2
 |.sb p e,v,h=>by
  cases h;have:=@GA _ U τ p (e.inst θ);have d:Ad U.V (e.inst θ)=Ad W.V e:=by unfold Ad;rw [Cl hV hβ hM]
  rw [d] at this;exact this
 |.si k e,v,h=>by
  cases h;have:=@B9 _ U τ k (e.inst θ);have d:Ac U.V (e.inst θ)=Ac W.V e:=by unfold Ac;rw [Cl hV hβ hM]
  rw [d] at this;exact this
 |.ss x,v,h=>by
  cases h;have d:AR U.V (x.inst θ)=AR W.V x:=by unfold AR;rw [Cl hV hβ hM]
  have:=@VR.ss U.toVals τ (x.inst θ);rw [d] at this;exact this
 |.dat e x,v,h=>by
  cases h with
  |dat _ _ a n c I=>exact @VR.dat U.toVals τ e _ a n c (by rw [Cl hV hβ hM,←hK];exact I.mono hM)
 |.dptr e x i off,v,h=>by
  cases h with
  |dptr _ _ _ _ b o n m ks I R h0 hi S=>
   have d:Ac U.V (i.inst θ)=Ac W.V i:=by unfold Ac;rw [Cl hV hβ hM]
   have:=@VR.dptr U.toVals τ e (x.inst θ) (i.inst θ) off b o n m ks (by rw [Cl hV hβ hM,←hK];exact I.mono hM) (by rw [←hK];exact R) (by rw [d];exact h0) (by rw [d];exact hi) S
   rw [d] at this;exact this
 |.asl b s n u,v,h=>by
  have d:Ac U.V (n.inst θ)=Ac W.V n:=by unfold Ac;rw [Cl hV hβ hM]
  have y:Ad U.V (u.inst θ)=Ad W.V u:=by unfold Ad;rw [Cl hV hβ hM]
  cases h with
  |asl _ _ _ _ m base j h0 G z w=>
   have:=@VR.asl U.toVals τ _ s (n.inst θ) (u.inst θ) m base (hβ _ _ j) (by rw [d];exact h0) (by rw [d];exact G) z (by rw [y];exact w)
   rw [d] at this;exact this
  |aslEnd _ _ _ _ a h0 w=>exact @VR.aslEnd U.toVals τ _ s _ _ a (by rw [d];exact h0) (by rw [y];exact w)
 |.eslc u,v,h=>by
  have y:Ad U.V (u.inst θ)=Ad W.V u:=by unfold Ad;rw [Cl hV hβ hM]
  cases h with
  |eslc _ a w=>exact @VR.eslc U.toVals τ _ a (by rw [y];exact w)
 |.aptr b s i off,v,h=>by
  have d:Ac U.V (i.inst θ)=Ac W.V i:=by unfold Ac;rw [Cl hV hβ hM]
  cases h with
  |aptr _ _ _ _ base j h0=>
   have:=@VR.aptr U.toVals τ _ s (i.inst θ) off base (hβ _ _ j) (by rw [d];exact h0)
   rw [d] at this;exact this
 |.nmap b u,v,h=>by
  have y:Ad U.V (u.inst θ)=Ad W.V u:=by unfold Ad;rw [Cl hV hβ hM]
  cases h with
  |nmap _ _ base j w=>exact @VR.nmap U.toVals τ _ _ base (hβ _ _ j) (by rw [y];exact w)
  |nmap0 _ _ w=>exact @VR.nmap0 U.toVals τ _ _ (by rw [y];exact w)
 |.stamp b,v,h=>by
  cases h with
  |stamp _ base j=>exact @VR.stamp U.toVals τ _ base (hβ _ _ j)
 |.glob g off,v,h=>by cases h;exact @VR.glob U.toVals _ _ _
 |.fsl b o n s,v,h=>by
  cases h with
  |fsl _ _ _ _ base j z=>exact @VR.fsl U.toVals τ _ o n s base (hβ _ _ j) z
theorem GI:∀(l:List AV) (F:List Value),@VL W.toVals σ l F→@VL U.toVals τ (@AV.instL U.toFacts θ β l) F
 |[],F,h=>by have:=VL.nil_inv (U:=W.toVals) h;subst this;exact VL.nil (U:=U.toVals) _
 |a::l,F,h=>by
  obtain ⟨v,r,rfl,D,E⟩:=VL.cons_inv (U:=W.toVals) h;exact VL.cons (U:=U.toVals) (FI a v D) (GI l r E)
end
theorem Nc:∀(l:List Aj) (c:List MapEntry),@ER W.toVals σ l c→@ER U.toVals τ (@SF U.toFacts θ β l) c
 |[],[],_=>trivial
 |a::l,e::r,h=>⟨FI hV hK hβ hM _ _ h.1,FI hV hK hβ hM _ _ h.2.1,h.2.2.1,Nc l r h.2.2.2⟩
theorem Rw {x y:Ag} {base:Br} {ob:Option Obj} (h:@Ag.inst U.toFacts θ β x=some y) (d:@BR W.toVals σ x base ob):@BR U.toVals τ y base ob:=by
 unfold Ag.inst at h;split at h
 ·cases h;obtain ⟨f,e,p,g,j,b3,b4,m⟩:=d;refine ⟨f,e,p,g,j,b3,b4,fun i a hi n=>?_⟩
  rw [T.get_mapA] at n;cases c:(_:T AV).get i with
  |none=>rw [c] at n;cases n
  |some a0=>
   rw [c] at n;cases n;obtain ⟨v,w,z⟩:=m i a0 hi c;exact ⟨v,w,FI hV hK hβ hM _ _ z⟩
 ·cases h;obtain ⟨ks,f,A,p,g,j,b3,b4,m⟩:=d;exact ⟨ks,f,A,p,by rw [←hK];exact g,j,b3,b4,by rw [Cl hV hβ hM,←hK];exact m.mono hM⟩
 ·cases h;obtain ⟨B,g,j⟩:=d;exact ⟨B,g,Nc hV hK hβ hM _ _ j⟩
 ·cases h;obtain ⟨q,r,s,l,g,j,b3,b4,m⟩:=d;exact ⟨q,r,s,l,by rw [←hK];exact g,by rw [←hK];exact j,b3,by rw [Cl hV hβ hM,←hK];exact b4.mono hM,m⟩
 ·cases h;exact d
 ·cases h;obtain ⟨C,t,o⟩:=d;cases C with
  |nil=>exact ⟨[],trivial,o⟩
  |cons=>exact t.elim
 ·cases h;obtain ⟨tm,D,t,o,E⟩:=d;refine ⟨tm,D,hβ _ _ t,@TR.mk U.toVals τ _ _ _ (@TR.size W.toVals σ _ _ _ o) (fun i x c=>?_),E⟩
  rw [T.get_mapA] at c;cases u:(_:T AV).get i with
  |none=>rw [u] at c;cases c
  |some a0=>
   rw [u] at c;cases c;exact FI hV hK hβ hM _ _ (@TR.get W.toVals σ _ _ _ o i a0 u)
 ·cases h
end
end Go.AE

