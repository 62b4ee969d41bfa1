/- What is proved here: an evaluator of the model's steps that the kernel can run, and that whatever it answers is what the model does (part 5 of 8: AeDraw1, AeDraw2, AeDraw3, AeDraw4, AeDraw5, AeDraw6, AeDraw7, AeDraw8, AeRun1, AeRun2, AeNorm, AeCode, AePat1, AePat2, AePat3). Conditions: those that each theorem states; they hold of no one program. -/
import Derived.Test.YtmjeljjkhblgeaaGreatDoorBeD
import Derived.Orders
set_option linter.unusedVariables false
set_option linter.unusedSectionVars false
set_option linter.unusedSimpArgs false
namespace Go.AE
variable [Gl:Ax]
variable [U:Unk]
def WF (h:Aa):Prop:=∀b,h.nx≤b→h.blk.get b=none
theorem Ext.wf {ρ i:Ren} {h h':Aa} {w j:World} (e:Ext ρ i h h' w j) (l:WF h):WF h':=by
 intro b C;have:=e.nx;cases r:h'.blk.get b with
 |none=>rfl
 |some x=>
  rcases e.live b (by rw [r];exact fun e=>by cases e) with t|⟨_,h2⟩
  ·exact absurd (l b (by omega)) t
  ·omega
def BM (P:Program) (m:Machine) (c0:Frame) (base:List Frame) (ok:Bool) (v:Value) (w:World):Prop:=
 match ok with
 |true=>Steps P m (lone (c0.finish v) base w)
 |false=>Steps P m (lone (c0.raise [{v:=v,recovered:=false}]) base w)
theorem BM.head {P:Program} {m i:Machine} {c0:Frame} {base:List Frame} {ok:Bool} {v:Value} {w:World} (h:step P m=.next i) (k:BM P i c0 base ok v w):BM P m c0 base ok v w:=by
 cases ok
 ·exact Steps.head h k
 ·exact Steps.head h k
def Dx (E:Env) (a:Ask→Aa→Option (Bool×AV×Aa)):Prop:=
 (∀(f:FuncId) (args:List AV) (b:List Value) (h g:Aa) (ok:Bool) (v:AV) (c:Ren) (w:World),VL c args b→HR c h.blk.get w→WF h→a (.enter f args) h=some (ok,v,g)→AA c h.nx g.nx→
  ∀(c0:Frame) (base:List Frame),∃d i e,BM E.P (lone (Frame.enter E.P f b.toArray .normal) (c0::base) w) c0 base ok i e∧VR d v i∧HR d g.blk.get e∧Ext c d h g w e)∧
 (∀(l:Nat) (args:List AV) (h g:Aa) (ok:Bool) (v:AV) (c:Ren) (w:World),HR c h.blk.get w→WF h→a (.round l args) h=some (ok,v,g)→AA c h.nx g.nx→
  ∃fr,Fo l args h=some fr∧∀(j:Frame),FrR c fr j→∀(c0:Frame) (base:List Frame),∃d i e,BM E.P (lone j (c0::base) w) c0 base ok i e∧VR d v i∧HR d g.blk.get e∧Ext c d h g w e)
def part (h:Aa):Option (List Nat)→Aa
 |some a=>{blk:=CN h a,nx:=h.nx,log:=[]}
 |none=>{h with log:=[]}
theorem CU (h:Aa):∀(l:List Nat) (b:Nat),(CN h l).get b=none∨(b∈l∧(CN h l).get b=h.blk.get b)
 |[],b=>.inl (T.get_nil b)
 |c::r,b=>by
  simp only [CN];cases f:h.blk.get c with
  |none=>
   rcases CU h r b with q|⟨a,d⟩
   ·exact .inl q
   ·exact .inr ⟨by simp [a],d⟩
  |some x=>
   simp only [T.get_set];by_cases e:c=b
   ·subst e;rw [if_pos rfl];exact .inr ⟨by simp,f.symm⟩
   ·rw [if_neg e];rcases CU h r b with q|⟨a,d⟩
    ·exact .inl q
    ·exact .inr ⟨by simp [a],d⟩
theorem I9 {h:Aa} (c:WF h) (fp:Option (List Nat)):WF (part h fp):=by
 intro b d;cases fp with
 |none=>exact c b d
 |some a=>
  rcases CU h a b with q|⟨_,q⟩
  ·exact q
  ·exact q.trans (c b d)
theorem LY {g:Ren} {a:AV} {v:Value} (h:VR g a v):VR g (T6 a) v:=by
 unfold T6;split
 ·rename_i b j;split
  ·rename_i f;have e:=Ap U.ok f;cases h with
   |nmap _ _ c i d=>rw [d] at e;cases e
   |nmap0=>exact .map0
  ·rename_i f;have e:=Ap U.ok f;cases h with
   |nmap _ _ c i d=>exact .map _ c i
   |nmap0 _ _ d=>rw [d] at e;cases e
  ·exact h
 ·exact h
theorem CZ (t:T AV):∀(l:List Tmp) (i:Tmp) (x:AV),(AO t l).get i=some x→i∈l∧∃y,t.get i=some y∧x=T6 y
 |[],i,x,h=>by rw [AO,T.get_nil] at h;cases h
 |c::r,i,x,h=>by
  simp only [AO] at h;cases a:t.get c with
  |none=>
   rw [a] at h;obtain ⟨b,d⟩:=CZ t r i x h;exact ⟨by simp [b],d⟩
  |some y=>
   rw [a] at h;simp only [T.get_set] at h;by_cases e:c=i
   ·subst e;rw [if_pos rfl] at h;cases h;exact ⟨by simp,_,a,rfl⟩
   ·rw [if_neg e] at h;obtain ⟨b,d⟩:=CZ t r i x h;exact ⟨by simp [b],d⟩
section
variable {E:Env} (hE:OK E) {callF:Ask→Aa→Option (Bool×AV×Aa)} {ρ:Ren} {h:Aa} {w:World} {c:Frame} {cs:List Frame}
include hE
theorem LP (X:Dx E callF) {all:Array Oper} {o:Oper} {nt:Nat} {t:T AV} {d:Did} {i:Nat} {rest:List Nat} {k:List Item} (m:CE E callF all o t h=some d) (hwf:WF h) (K:c.mode=.run)
  (B:c.todo=.inRegion all (i::rest)::k) (L:all[i]?=some o) (M:TR ρ nt t c.tmps) (hr:HR ρ (part h d.fp).blk.get w) (n:AA ρ h.nx d.g.nx) :
  ∃C F D,BM E.P (lone c cs w) c cs d.ok F D∧VR C d.v F∧HR C d.g.blk.get D∧Ext ρ C (part h d.fp) d.g w D:=by
 have H:EvR ρ t c.eval:=by
  intro x;have:=Hs M x;cases x<;>exact this
 unfold CE at m;split at m
 ·cases m
 ·rename_i N;have q:=Bg M N;cases m;exact ⟨ρ,undef,w,Steps.one (LG K B L q),VR.undef ρ,hr,Ext.refl _ _ _⟩
 ·rename_i N;have q:=Bg M N;split at m
  ·rename_i G
   have s:∀cl,o.op≠.defer cl:=by
    intro cl e;rw [e] at G;cases G
   simp only at m;split at m
   ·rename_i v g j;cases m;have a:=Ia hE (h:=part h (some (SH t h o.op))) hr H o;rw [show aop E t (part h (some (SH t h o.op))) o.op=_ from j] at a
    obtain ⟨C,F,D,I,J,O,Q⟩:=a n;exact ⟨C,F,D,Steps.one (PW K B L q (.inr s) I),J,O,Q⟩
   ·cases m
  ·have u:∀{r:Res},aop E t {h with log:=[]} o.op=r→(∀d g,r≠.defer d g)→(∀y,r≠.bad y)→∀cl,o.op≠.defer cl:=by
    intro r j Y Z cl e;rw [e] at j;simp only [aop] at j;rcases C0 t cl {h with log:=[]} with ⟨d,R⟩|⟨y,R⟩
    ·exact Y _ _ (j.symm.trans R)
    ·exact Z _ (j.symm.trans R)
   split at m
   ·rename_i f args h' j;split at m
    ·rename_i ok v g p;cases m;have a:=Ia hE (h:=part h none) hr H o;rw [show aop E t (part h none) o.op=_ from j] at a
     obtain ⟨rfl,z,S,A⟩:=a;have s:=u j (fun _ _ e=>by cases e) (fun _ e=>by cases e)
     obtain ⟨C,F,D,I,J,O,Q⟩:=X.1 f args z (part h none) g ok v ρ w S hr (I9 hwf none) p n c cs;exact ⟨C,F,D,I.head (Kb K B L q (.inr s) A),J,O,Q⟩
    ·cases m
   ·rename_i l args h' j;split at m
    ·rename_i ok v g p;cases m;have a:=Ia hE (h:=part h none) hr H o;rw [show aop E t (part h none) o.op=_ from j] at a
     obtain ⟨rfl,b,z,hb,S,A⟩:=a;have s:=u j (fun _ _ e=>by cases e) (fun _ e=>by cases e)
     obtain ⟨fr,V,W⟩:=X.2 l args (part h none) g ok v ρ w hr (I9 hwf none) p n;obtain ⟨fn,tm,assign,body,I,J⟩:=KZ (E:=E) (h:=h) hr hb (show Fo l args h=some fr from V) S
     obtain ⟨C,F,D,p1,p2,p3,p4⟩:=W _ J c cs;exact ⟨C,F,D,p1.head (Un K B L q (.inr s) (A.trans I)),p2,p3,p4⟩
    ·cases m
   ·cases m
end
end Go.AE
namespace Go.AE
variable [Gl:Ax]
variable [U:Unk]
theorem GQ {b:Nat}:∀{l:List Nat},KJ b l=true↔b∈l
 |[]=>by simp [KJ]
 |c::r=>by
  simp only [KJ,List.mem_cons];cases e:Nat.beq b c with
  |true=>simp [As e]
  |false=>simp only;rw [GQ];simp [NP e]
theorem Gn:∀{l m:List Nat},HW l m=true→∀b∈l,b∉m
 |[],m,_,b,a=>by cases a
 |c::r,m,h,b,a=>by
  simp only [HW] at h;cases e:KJ c m with
  |true=>rw [e] at h;cases h
  |false=>
   rw [e] at h;rcases List.mem_cons.1 a with rfl|a
   ·exact fun d=>by rw [GQ.2 d] at e;cases e
   ·exact Gn h b a
theorem Ol {lo hi:Nat}:∀{l:List Nat},SX lo hi l=true→∀b∈l,¬(lo≤b∧b<hi)
 |[],_,b,a=>by cases a
 |c::r,h,b,a=>by
  simp only [SX] at h;cases e:Nat.ble lo c&&Nat.blt c hi with
  |true=>rw [e] at h;cases h
  |false=>
   rw [e] at h;rcases List.mem_cons.1 a with rfl|a
   ·rintro ⟨d,f⟩
    have:(Nat.ble lo b&&Nat.blt b hi)=true:=by simp [Nat.ble_eq,Nat.blt_eq,d,f]
    rw [this] at e;cases e
   ·exact Ol h b a
theorem BZ {n b:Nat}:∀{l:List Nat},b∈Bq n l↔b∈l∧b<n
 |[]=>by simp [Bq]
 |c::r=>by
  simp only [Bq];cases e:Nat.blt c n with
  |true=>
   simp only [List.mem_cons,BZ];have:c<n:=by simpa [Nat.blt_eq] using e
   constructor
   ·rintro (rfl|h)
    ·exact ⟨.inl rfl,this⟩
    ·exact ⟨.inr h.1,h.2⟩
   ·rintro ⟨rfl|h,a⟩
    ·exact .inl rfl
    ·exact .inr ⟨h,a⟩
  |false=>
   simp only [List.mem_cons,BZ]
   have:¬c<n:=by
    intro h;have:Nat.blt c n=true:=by simpa [Nat.blt_eq] using h
    rw [this] at e;cases e
   constructor
   ·rintro h;exact ⟨.inr h.1,h.2⟩
   ·rintro ⟨rfl|h,a⟩
    ·exact absurd a this
    ·exact ⟨h,a⟩
structure Rc.Apart (x y:Rc):Prop where
 fp1:∀b∈x.wr,∀l,y.fp=some l→b∉l
 fp1n:y.fp=none→x.wr=[]
 fp2:∀b∈y.wr,∀l,x.fp=some l→b∉l
 fp2n:x.fp=none→y.wr=[]
 wr:∀b∈x.wr,b∉y.wr
 out:∀b∈y.wr,¬(x.lo≤b∧b<x.hi)
 look1:∀t,x.dst=some t→t∉y.looks
 look2:∀t,y.dst=some t→t∉x.looks
 dst:∀t,x.dst=some t→y.dst≠some t
theorem Iq {w l:List Nat} (h:Gz w (some l)=true):∀b∈w,b∉l:=Gn h
theorem Rc.apart_ok {x y:Rc} (h:x.apart y=true):x.Apart y:=by
 simp only [Rc.apart,Bool.and_eq_true,Bool.not_eq_true'] at h;obtain ⟨⟨⟨⟨⟨⟨j,r⟩,h3⟩,h4⟩,C⟩,I⟩,h7⟩:=h;refine ⟨fun b J l hl=>?_,fun hn=>?_,fun b J l hl=>?_,fun hn=>?_,Gn h3,Ol h4,fun t i hm=>?_,fun t i hm=>?_,fun t i ab=>?_⟩
 ·rw [hl] at j;exact Iq j b J
 ·rw [hn] at j;simpa [Gz] using j
 ·rw [hl] at r;exact Iq r b J
 ·rw [hn] at r;simpa [Gz] using r
 ·rw [i] at C;rw [RG,GQ.2 hm] at C;cases C
 ·rw [i] at I;rw [RG,GQ.2 hm] at I;cases I
 ·rw [i,ab,TC,Eo] at h7;cases h7
theorem Sa (m i:Nat):Nat.beq (m/2^i%2) 1=m.testBit i:=by
 rw [Nat.testBit_eq_decide_div_mod_eq];by_cases h:m/2^i%2=1
 ·rw [h];rfl
 ·rw [DA h];simp [h]
theorem IB {y:Rc}:∀{l:List Rc} {p:Nat},CA y l p=true→∀i x,l[i]?=some x→y.mask.testBit (p+i)=true∨x.Apart y
 |[],p,h,i,x,a=>by cases a
 |c::r,p,h,i,x,a=>by
  simp only [CA,Sa] at h;cases e:y.mask.testBit p||c.apart y with
  |false=>rw [e] at h;cases h
  |true=>
   rw [e] at h;cases i with
   |zero=>
    simp only [List.getElem?_cons_zero,Option.some.injEq] at a;subst a;rcases Bool.or_eq_true_iff.1 e with e|e
    ·exact .inl e
    ·exact .inr (Rc.apart_ok e)
   |succ i=>
    have:=IB h i x (by simpa using a)
    rw [show p+(i+1)=p+1+i by omega]
    exact this
theorem C5 {recs:List Rc}:∀{j:List Edge} {m:Nat},Bu recs j=some m→
  (∀e∈j,Region.binds .any e=true→∃x,recs[e.on]?=some x)∧
  ∀i,m.testBit i=true↔∃e∈j,Region.binds .any e=true∧∃x,recs[e.on]?=some x∧(x.mask.testBit i=true∨i=e.on)
 |[],m,h=>by
  simp only [Bu,Option.some.injEq] at h;subst h;simp
 |e::r,m,h=>by
  simp only [Bu] at h;cases hr:Bu recs r with
  |none=>rw [hr] at h;cases h
  |some o=>
   rw [hr] at h;obtain ⟨l,n⟩:=C5 hr;simp only at h;cases f:Region.binds .any e with
   |false=>
    rw [f] at h;simp only [Option.some.injEq] at h;subst h;refine ⟨fun a c b=>?_,fun i=>?_⟩
    ·rcases List.mem_cons.1 c with rfl|c
     ·rw [f] at b;cases b
     ·exact l a c b
    ·rw [n];constructor
     ·rintro ⟨a,c,d⟩;exact ⟨a,by simp [c],d⟩
     ·rintro ⟨a,c,b,d⟩
      rcases List.mem_cons.1 c with rfl|c
      ·rw [f] at b;cases b
      ·exact ⟨a,c,b,d⟩
   |true=>
    rw [f] at h;simp only at h;cases g:recs[e.on]? with
    |none=>rw [g] at h;cases h
    |some x=>
     rw [g] at h;simp only [Option.some.injEq] at h;subst h;refine ⟨fun a c b=>?_,fun i=>?_⟩
     ·rcases List.mem_cons.1 c with rfl|c
      ·exact ⟨x,g⟩
      ·exact l a c b
     ·simp only [Nat.testBit_or,Bool.or_eq_true,Nat.testBit_two_pow,decide_eq_true_eq,n];constructor
      ·rintro ((⟨a,c,d⟩|h)|h)
       ·exact ⟨a,by simp [c],d⟩
       ·exact ⟨e,by simp,f,x,g,.inl h⟩
       ·exact ⟨e,by simp,f,x,g,.inr h.symm⟩
      ·rintro ⟨a,c,b,y,k,d⟩
       rcases List.mem_cons.1 c with rfl|c
       ·rw [g] at k;cases k;rcases d with d|d
        ·exact .inl (.inr d)
        ·exact .inr d.symm
       ·exact .inl (.inl ⟨a,c,b,y,k,d⟩)
theorem EB (blk g:T Ab):∀(l:List Nat) (b:Nat),(b∉l→(Fr blk g l).get b=blk.get b)∧(b∈l→(Fr blk g l).get b=none∨(blk.get b≠none∧(Fr blk g l).get b=g.get b))
 |[],b=>⟨fun _=>rfl,(fun h=>by cases h)⟩
 |c::r,b=>by
  have ih:=EB blk g r b;simp only [Fr];split
  ·rename_i x y a d;rw [T.get_set];refine ⟨fun h=>?_,fun h=>?_⟩
   ·rw [if_neg (by rintro rfl;simp at h)];exact ih.1 (by simp at h;exact h.2)
   ·by_cases e:c=b
    ·subst e;rw [if_pos rfl];exact .inr ⟨(by rw [d];exact Option.some_ne_none _),a.symm⟩
    ·rw [if_neg e];exact ih.2 ((List.mem_cons.1 h).resolve_left (fun q=>e q.symm))
  ·rw [T.get_del];refine ⟨fun h=>?_,fun h=>?_⟩
   ·rw [if_neg (by rintro rfl;simp at h)];exact ih.1 (by simp at h;exact h.2)
   ·by_cases e:c=b
    ·subst e;rw [if_pos rfl];exact .inl rfl
    ·rw [if_neg e];exact ih.2 ((List.mem_cons.1 h).resolve_left (fun q=>e q.symm))
theorem EG (blk g:T Ab):∀(n i b:Nat),(GI blk g i n).get b=if i≤b∧b<i+n∧g.get b≠none then g.get b else blk.get b
 |0,i,b=>by
  simp only [GI];rw [if_neg (by omega)]
 |n+1,i,b=>by
  have ih:=EG blk g n (i+1) b;simp only [GI];cases a:g.get i with
  |none=>
   simp only;rw [ih];by_cases e:i=b
   ·subst e;rw [if_neg (by omega),if_neg (by rintro ⟨_,_,h⟩;exact h a)]
   ·by_cases q:i+1≤b∧b<i+1+n∧g.get b≠none
    ·rw [if_pos q,if_pos ⟨by omega,by omega,q.2.2⟩]
    ·rw [if_neg q,if_neg (by rintro ⟨d,f,c⟩;exact q ⟨by omega,by omega,c⟩)]
  |some x=>
   simp only [T.get_set];by_cases e:i=b
   ·subst e;rw [if_pos rfl,if_pos ⟨by omega,by omega,(by rw [a];exact Option.some_ne_none _)⟩,a]
   ·rw [if_neg e,ih];by_cases q:i+1≤b∧b<i+1+n∧g.get b≠none
    ·rw [if_pos q,if_pos ⟨by omega,by omega,q.2.2⟩]
    ·rw [if_neg q,if_neg (by rintro ⟨d,f,c⟩;exact q ⟨by omega,by omega,c⟩)]
section
variable {h g:Aa}
theorem Ce (c:h.nx≤g.nx) {b:Nat} (a:b∉Bq h.nx g.log) (d:b<h.nx∨g.nx≤b):(AN h g).blk.get b=h.blk.get b:=by
 simp only [AN,EG];rw [if_neg (by omega)]
 exact (EB _ _ _ b).1 a
theorem FH {b:Nat} (a:b∈Bq h.nx g.log):(AN h g).blk.get b=none∨(h.blk.get b≠none∧(AN h g).blk.get b=g.blk.get b):=by
 have c:=(BZ.1 a).2;simp only [AN,EG];rw [if_neg (by omega)]
 exact (EB _ _ _ b).2 a
theorem Gp (c:WF h) (f:h.nx≤g.nx) {b:Nat} (a:h.nx≤b) (i:b<g.nx):(AN h g).blk.get b=g.blk.get b:=by
 simp only [AN,EG];have d:b∉Bq h.nx g.log:=fun e=>by have:=(BZ.1 e).2;omega
 cases j:g.blk.get b with
 |none=>
  rw [if_neg (by rintro ⟨_,_,h⟩;exact h rfl),(EB _ _ _ b).1 d,c b a]
 |some x=>rw [if_pos ⟨a,by omega,fun e=>by cases e⟩]
theorem FP (c:WF h) (d:h.nx≤g.nx):WF (AN h g):=by
 intro b f;have a:g.nx≤b:=f;rw [Ce d (fun e=>by have:=(BZ.1 e).2;omega) (.inr a)]
 exact c b (by omega)
theorem Fp (e:WF h) (d:h.nx≤g.nx) {b:Nat} (a:(AN h g).blk.get b≠none):h.blk.get b≠none∨(h.nx≤b∧b<g.nx):=by
 by_cases f:b<h.nx
 ·by_cases c:b∈Bq h.nx g.log
  ·rcases FH c with q|⟨q,_⟩
   ·exact absurd q a
   ·exact .inl q
  ·rw [Ce d c (.inl f)] at a;exact .inl a
 ·by_cases c:b<g.nx
  ·exact .inr ⟨by omega,c⟩
  ·exact absurd (FP e d b (by show g.nx≤b;omega)) a
end
end Go.AE
namespace Go.AE
variable [Gl:Ax]
variable [U:Unk]
structure Tx (E:Env) (callF:Ask→Aa→Option (Bool×AV×Aa)) (all:Array Oper) (H:Nat→Aa) (Tm:Nat→T AV) (R:Nat→Rc) (Dd:Nat→Did) (j:Nat) (o:Oper):Prop where
 mask:Bu ((List.range j).map R) o.after.toList=some (R j).mask
 did:CE E callF all o (AO (Tm j) (A4 all o)) (H j)=some (Dd j)
 nx:(H j).nx≤(Dd j).g.nx
structure Good (E:Env) (callF:Ask→Aa→Option (Bool×AV×Aa)) (all:Array Oper) (nt:Nat) (H:Nat→Aa) (Tm:Nat→T AV) (R:Nat→Rc) (Dd:Nat→Did) (j:Nat) (o:Oper):Prop where
 tx:Tx E callF all H Tm R Dd j o
 wr:(R j).wr=Bq (H j).nx (Dd j).g.log
 fp:(R j).fp=(Dd j).fp
 lo:(R j).lo=(H j).nx
 hi:(R j).hi=(Dd j).g.nx
 dst:(R j).dst=o.dst
 looks:(R j).looks=A4 all o
 apart:CA (R j) ((List.range j).map R) 0=true
 put:DE nt (Tm j) o.dst (Dd j).v=some (Tm (j+1))
 heap:H (j+1)=AN (H j) (Dd j).g
 ok:(Dd j).ok=true
structure Bad (E:Env) (callF:Ask→Aa→Option (Bool×AV×Aa)) (all:Array Oper) (H:Nat→Aa) (Tm:Nat→T AV) (R:Nat→Rc) (Dd:Nat→Did) (j:Nat) (o:Oper) (rest:List Oper):Prop where
 tx:Tx E callF all H Tm R Dd j o
 ok:(Dd j).ok=false
 all:(R j).mask+1=2^j
 after:∃recs:List Rc,recs.length=j∧recs=(List.range j).map R∧Es (recs++[{wr:=[],fp:=none,lo:=0,hi:=0,dst:=none,looks:=[],mask:=(R j).mask}]) j rest=true
section
variable {E:Env} {callF:Ask→Aa→Option (Bool×AV×Aa)} {all:Array Oper} {nt:Nat}
theorem Hu {b:Type} {R:Nat→b} {a:List b} (h:∀i x,a[i]?=some x→R i=x):(List.range a.length).map R=a:=by
 apply List.ext_getElem (by simp)
 intro i d c;simp only [List.getElem_map,List.getElem_range];exact h i _ (by simp [c])
theorem G7:∀(l:List Oper) (a:List Rc) (tmps:T AV) (h:Aa) (r:Option AV) (f:T AV) (h':Aa),Bt E callF all nt l a tmps h=some (r,f,h')→
  ∃H A R F m,(∀i x,a[i]?=some x→R i=x)∧H a.length=h∧A a.length=tmps∧(∀i,i<m→∃o,l[i]?=some o∧Good E callF all nt H A R F (a.length+i) o)∧
   (r=none→m=l.length∧f=A (a.length+m)∧h'=H (a.length+m))∧
   (∀v,r=some v→∃o,l[m]?=some o∧Bad E callF all H A R F (a.length+m) o (l.drop (m+1))∧v=(F (a.length+m)).v∧f=A (a.length+m)∧h'=AN (H (a.length+m)) (F (a.length+m)).g)
 |[],a,tmps,h,r,f,h',c=>by
  simp only [Bt,Option.some.injEq,Prod.mk.injEq] at c;obtain ⟨rfl,rfl,rfl⟩:=c;exact ⟨fun _=>h,fun _=>tmps,fun i=>a.getD i default,fun _=>default,0,fun i x B=>by simp [B],rfl,rfl,fun i hi=>absurd hi (Nat.not_lt_zero _),fun _=>⟨rfl,rfl,rfl⟩,(fun v K=>by cases K)⟩
 |o::rest,a,tmps,h,r,f,h',c=>by
  simp only [Bt] at c;cases s:Bu a o.after.toList with
  |none=>rw [s] at c;cases c
  |some mask=>
   rw [s] at c;simp only at c;cases z:CE E callF all o (AO tmps (A4 all o)) h with
   |none=>rw [z] at c;cases c
   |some d=>
    rw [z] at c;simp only at c;cases G:Nat.ble h.nx d.g.nx with
    |false=>rw [G] at c;cases c
    |true=>
     have N:h.nx≤d.g.nx:=Nat.le_of_ble_eq_true G;cases I:d.ok with
     |true=>
      rw [G,I] at c;simp only at c;cases L:CA {wr:=Bq h.nx d.g.log,fp:=d.fp,lo:=h.nx,hi:=d.g.nx,dst:=o.dst,looks:=A4 all o,mask} a 0 with
      |false=>rw [L] at c;cases c
      |true=>
       rw [L] at c;simp only at c;cases C:DE nt tmps o.dst d.v with
       |none=>rw [C] at c;cases c
       |some t1=>
        rw [C] at c;simp only at c;obtain ⟨H,A,R,F,m,Y,Z,q3,q4,q5,q6⟩:=G7 rest _ t1 _ r f h' c;have hl:(a++[({wr:=Bq h.nx d.g.log,fp:=d.fp,lo:=h.nx,hi:=d.g.nx,dst:=o.dst,looks:=A4 all o,mask}:Rc)]).length=a.length+1:=by simp
        rw [hl] at Z q3 q4 q5 q6;have hR:R a.length={wr:=Bq h.nx d.g.log,fp:=d.fp,lo:=h.nx,hi:=d.g.nx,dst:=o.dst,looks:=A4 all o,mask}:=Y _ _ (by simp)
        have k:∀i x,a[i]?=some x→R i=x:=fun i x B=>Y i x (by rw [List.getElem?_append_left (List.getElem?_eq_some_iff.1 B).1];exact B)
        have D:=Hu k;have q:∀j,a.length+1≤j→(fun i=>if i≤a.length then h else H i) j=H j:=fun j n=>if_neg (by omega)
        have w:∀j,a.length+1≤j→(fun i=>if i≤a.length then tmps else A i) j=A j:=fun j n=>if_neg (by omega)
        have p:∀j,a.length+1≤j→(fun i=>if i≤a.length then d else F i) j=F j:=fun j n=>if_neg (by omega)
        have y:(fun i=>if i≤a.length then h else H i) a.length=h:=if_pos (Nat.le_refl _)
        have J:(fun i=>if i≤a.length then tmps else A i) a.length=tmps:=if_pos (Nat.le_refl _)
        have u:(fun i=>if i≤a.length then d else F i) a.length=d:=if_pos (Nat.le_refl _)
        generalize (fun i=>if i≤a.length then h else H i)=Q at q y
        generalize (fun i=>if i≤a.length then tmps else A i)=O at w J
        generalize (fun i=>if i≤a.length then d else F i)=M at p u
        have P:∀j x,a.length+1≤j→Tx E callF all H A R F j x→Tx E callF all Q O R M j x:=by
         intro j x n t;refine ⟨t.mask,?_,?_⟩
         ·rw [w j n,q j n,p j n];exact t.did
         ·rw [q j n,p j n];exact t.nx
        have e:∀i,a.length+(i+1)=a.length+1+i:=fun i=>by omega
        refine ⟨Q,O,R,M,m+1,k,y,J,?_,?_,?_⟩
        ·intro i hi;cases i with
         |zero=>
          refine ⟨o,rfl,⟨⟨?_,?_,?_⟩,?_,?_,?_,?_,?_,?_,?_,?_,?_,?_⟩⟩
          ·rw [Nat.add_zero,D,hR];exact s
          ·rw [Nat.add_zero,J,y,u];exact z
          ·rw [Nat.add_zero,y,u];exact N
          ·rw [Nat.add_zero,hR,y,u]
          ·rw [Nat.add_zero,hR,u]
          ·rw [Nat.add_zero,hR,y]
          ·rw [Nat.add_zero,hR,u]
          ·rw [Nat.add_zero,hR]
          ·rw [Nat.add_zero,hR]
          ·rw [Nat.add_zero,D,hR];exact L
          ·rw [Nat.add_zero,J,u,w _ (Nat.le_refl _),q3];exact C
          ·show Q (a.length+1)=AN (Q a.length) (M a.length).g;rw [y,u,q _ (Nat.le_refl _),Z]
          ·rw [Nat.add_zero,u];exact I
         |succ i=>
          obtain ⟨x,B,g⟩:=q4 i (by omega)
          have n:a.length+1≤a.length+1+i:=by omega
          refine ⟨x,by simpa using B,?_⟩
          rw [e];refine ⟨P _ _ n g.tx,?_,?_,?_,?_,g.dst,g.looks,g.apart,?_,?_,?_⟩
          ·rw [q _ n,p _ n];exact g.wr
          ·rw [p _ n];exact g.fp
          ·rw [q _ n];exact g.lo
          ·rw [p _ n];exact g.hi
          ·rw [w _ n,p _ n,w _ (by omega)];exact g.put
          ·rw [q _ n,p _ n,q _ (by omega)];exact g.heap
          ·rw [p _ n];exact g.ok
        ·intro hr;obtain ⟨S,V,W⟩:=q5 hr;refine ⟨by simp [S],?_,?_⟩
         ·rw [e,w _ (by omega)];exact V
         ·rw [e,q _ (by omega)];exact W
        ·intro v K;obtain ⟨x,B,b,S,V,W⟩:=q6 v K;have n:a.length+1≤a.length+1+m:=by omega
         refine ⟨x,by simpa using B,?_,?_,?_,?_⟩
         ·rw [e];exact ⟨P _ _ n b.tx,by rw [p _ n];exact b.ok,b.all,by simpa using b.after⟩
         ·rw [e,p _ n];exact S
         ·rw [e,w _ n];exact V
         ·rw [e,q _ n,p _ n];exact W
     |false=>
      rw [G,I] at c;simp only at c;cases X:Nat.beq (mask+1) (2^a.length)&&Es (a++[{wr:=[],fp:=none,lo:=0,hi:=0,dst:=none,looks:=[],mask}]) a.length rest with
      |false=>rw [X] at c;cases c
      |true=>
       rw [X] at c;simp only [Option.some.injEq,Prod.mk.injEq] at c;obtain ⟨rfl,rfl,rfl⟩:=c;obtain ⟨c1,c2⟩:=Ao X
       have k:∀i x,a[i]?=some x→(fun i=>if i<a.length then a.getD i default else ({wr:=[],fp:=none,lo:=0,hi:=0,dst:=none,looks:=[],mask}:Rc)) i=x:=by
        intro i x B;have:=(List.getElem?_eq_some_iff.1 B).1;simp only [this,if_true];simp [B]
       have hR:(fun i=>if i<a.length then a.getD i default else ({wr:=[],fp:=none,lo:=0,hi:=0,dst:=none,looks:=[],mask}:Rc)) a.length={wr:=[],fp:=none,lo:=0,hi:=0,dst:=none,looks:=[],mask}:=if_neg (Nat.lt_irrefl _)
       generalize (fun i=>if i<a.length then a.getD i default else ({wr:=[],fp:=none,lo:=0,hi:=0,dst:=none,looks:=[],mask}:Rc))=R at k hR
       have D:=Hu k;refine ⟨fun _=>h,fun _=>tmps,R,fun _=>d,0,k,rfl,rfl,fun i hi=>absurd hi (Nat.not_lt_zero _),(fun K=>by cases K),fun v K=>?_⟩
       cases K;refine ⟨o,rfl,⟨⟨?_,z,N⟩,I,?_,a,rfl,?_,?_⟩,rfl,rfl,rfl⟩
       ·rw [Nat.add_zero,D,hR];exact s
       ·show (R a.length).mask+1=2^a.length;rw [hR];exact As c1
       ·rw [Nat.add_zero,D]
       ·rw [Nat.add_zero,hR];simpa using c2
end
end Go.AE
namespace Go.AE
variable [Gl:Ax]
variable [U:Unk]
def ins (D:Nat→Bool) (j:Nat):Nat→Bool:=fun i=>if i=j then true else D i
def Cn (H:Nat→Aa) (R:Nat→Rc) (D:Nat→Bool):Nat→Nat→Option Ab
 |0,b=>(H 0).blk.get b
 |j+1,b=>if D j=true∧(b∈(R j).wr∨((R j).lo≤b∧b<(R j).hi)) then (H (j+1)).blk.get b else Cn H R D j b
def Tn (a:Nat→T AV) (R:Nat→Rc) (D:Nat→Bool):Nat→Tmp→Option AV
 |0,t=>(a 0).get t
 |j+1,t=>if D j=true∧(R j).dst=some t then (a (j+1)).get t else Tn a R D j t
structure BN (E:Env) (callF:Ask→Aa→Option (Bool×AV×Aa)) (all:Array Oper) (nt:Nat) (H:Nat→Aa) (Tm:Nat→T AV) (R:Nat→Rc) (Dd:Nat→Did) (n:Nat):Prop where
 good:∀j,j<n→∃o,all[j]?=some o∧Good E callF all nt H Tm R Dd j o
 wf:WF (H 0)
section
variable {E:Env} {callF:Ask→Aa→Option (Bool×AV×Aa)} {all:Array Oper} {nt:Nat} {H:Nat→Aa} {Tm:Nat→T AV} {R:Nat→Rc} {Dd:Nat→Did} {n:Nat}
 (X:BN E callF all nt H Tm R Dd n)
include X
theorem BN.hi {j:Nat} (i:j<n):(H (j+1)).nx=(R j).hi:=by
 obtain ⟨o,_,g⟩:=X.good j i;rw [g.heap,g.hi];rfl
theorem BN.lo {j:Nat} (i:j<n):(R j).lo=(H j).nx:=by
 obtain ⟨o,_,g⟩:=X.good j i;exact g.lo
theorem BN.le {j:Nat} (i:j<n):(R j).lo≤(R j).hi:=by
 obtain ⟨o,_,g⟩:=X.good j i;rw [g.lo,g.hi];exact g.tx.nx
theorem BN.mono {i:Nat}:∀{j:Nat},i≤j→j≤n→(H i).nx≤(H j).nx
 |0,l,_=>by rw [Nat.le_zero.1 l];exact Nat.le_refl _
 |j+1,l,r=>by
  rcases Nat.lt_or_ge i (j+1) with h|h
  ·have:=BN.mono (i:=i) (j:=j) (by omega) (by omega)
   have t:=X.hi (j:=j) (by omega)
   have C:=X.lo (j:=j) (by omega)
   have I:=X.le (j:=j) (by omega)
   omega
  ·have:i=j+1:=by omega
   rw [this];exact Nat.le_refl _
theorem BN.wfAt:∀{j:Nat},j≤n→WF (H j)
 |0,_=>X.wf
 |j+1,i=>by
  obtain ⟨o,_,g⟩:=X.good j (by omega)
  rw [g.heap];exact FP (BN.wfAt (j:=j) (by omega)) g.tx.nx
theorem BN.bits {j:Nat} (C:j<n):∀{i:Nat},(R j).mask.testBit i=true→i<j:=by
 induction j using Nat.strongRecOn with
 |ind j ih=>
  intro i hi;obtain ⟨o,_,g⟩:=X.good j C;obtain ⟨e,I,J,x,r,h⟩:=((C5 g.tx.mask).2 i).1 hi
  have l:e.on<j:=by
   have:=(List.getElem?_eq_some_iff.1 r).1;simpa using this
  have t:x=R e.on:=by
   rw [List.getElem?_map,List.getElem?_range l] at r;simpa using r.symm
  rcases h with h|h
  ·rw [t] at h;have:=ih e.on l (by omega) h
   omega
  ·omega
theorem BN.apart {i j:Nat} (l:i<j) (r:j<n) (t:(R j).mask.testBit i=false):(R i).Apart (R j):=by
 obtain ⟨o,_,g⟩:=X.good j r;rcases IB g.apart i (R i) (by rw [List.getElem?_map,List.getElem?_range l];rfl) with h|h
 ·rw [Nat.zero_add,t] at h;cases h
 ·exact h
theorem BN.stay {j:Nat} (l:j<n) {b:Nat} (i:b∉(R j).wr) (r:¬((R j).lo≤b∧b<(R j).hi)):(H (j+1)).blk.get b=(H j).blk.get b:=by
 obtain ⟨o,_,g⟩:=X.good j l;rw [g.wr] at i;rw [g.lo,g.hi] at r;rw [g.heap];exact Ce g.tx.nx i (by omega)
theorem BN.wr_lt {j:Nat} (l:j<n) {b:Nat} (i:b∈(R j).wr):b<(H j).nx:=by
 obtain ⟨o,_,g⟩:=X.good j l;rw [g.wr] at i;exact (BZ.1 i).2
theorem BN.cn_text {D:Nat→Bool} {b:Nat}:∀{m:Nat},m≤n→(∀i,i<m→D i=false→b∉(R i).wr∧¬((R i).lo≤b∧b<(R i).hi))→Cn H R D m b=(H m).blk.get b
 |0,_,_=>rfl
 |m+1,r,h=>by
  simp only [Cn];by_cases j:D m=true∧(b∈(R m).wr∨((R m).lo≤b∧b<(R m).hi))
  ·rw [if_pos j]
  ·rw [if_neg j,BN.cn_text (m:=m) (by omega) fun i hi=>h i (by omega)]
   have:b∉(R m).wr∧¬((R m).lo≤b∧b<(R m).hi):=by
    cases l:D m with
    |false=>exact h m (by omega) l
    |true=>exact ⟨fun q=>j ⟨l,.inl q⟩,fun q=>j ⟨l,.inr q⟩⟩
   exact (X.stay (by omega) this.1 this.2).symm
omit X in
theorem Jh {D:Nat→Bool} {b j:Nat}:∀{m:Nat},j≤m→(∀i,j≤i→i<m→D i=true→b∉(R i).wr∧¬((R i).lo≤b∧b<(R i).hi))→Cn H R D m b=Cn H R D j b
 |0,hj,_=>by rw [Nat.le_zero.1 hj]
 |m+1,hj,h=>by
  rcases Nat.lt_or_ge j (m+1) with hlt|hge
  ·simp only [Cn];rw [if_neg,Jh (by omega) fun i h1 h2=>h i h1 (by omega)]
   rintro ⟨hD,q⟩
   obtain ⟨a1,a2⟩:=h m (by omega) (by omega) hD
   exact q.elim a1 a2
  ·rw [show j=m+1 by omega]
omit X in
theorem Ur {D:Nat→Bool} {b j:Nat} (hD:D j=false) (h1:b∉(R j).wr) (h2:¬((R j).lo≤b∧b<(R j).hi)):∀m,Cn H R (ins D j) m b=Cn H R D m b
 |0=>rfl
 |m+1=>by
  simp only [Cn];rw [Ur hD h1 h2 m];by_cases e:m=j
  ·subst e;rw [if_neg (by rintro ⟨_,q⟩;exact q.elim h1 h2),if_neg (by rintro ⟨q,_⟩;rw [hD] at q;cases q)]
  ·simp [ins,e]
omit X in
theorem Rt {D:Nat→Bool} {b j m:Nat} (hjm:j<m) (h1:b∈(R j).wr∨((R j).lo≤b∧b<(R j).hi)) (h2:∀i,j<i→i<m→D i=true→b∉(R i).wr∧¬((R i).lo≤b∧b<(R i).hi)) :
  Cn H R (ins D j) m b=(H (j+1)).blk.get b:=by
 rw [Jh (j:=j+1) hjm fun i a1 a2 hD=>h2 i a1 a2 (by simpa [ins,show i≠j by omega] using hD)]
 simp only [Cn];rw [if_pos ⟨by simp [ins],h1⟩]
theorem BN.tput {j:Nat} (hj:j<n) {t:Tmp} (r:(R j).dst≠some t):(Tm (j+1)).get t=(Tm j).get t:=by
 obtain ⟨o,_,g⟩:=X.good j hj;have l:=g.put;rw [g.dst] at r;unfold DE at l;split at l
 ·rename_i d C;split at l
  ·simp only [Option.some.injEq] at l;rw [←l,T.get_set,if_neg]
   rintro rfl;exact r C
  ·cases l
 ·simp only [Option.some.injEq] at l;rw [l]
theorem BN.tn_text {D:Nat→Bool} {t:Tmp}:∀{m:Nat},m≤n→(∀i,i<m→D i=false→(R i).dst≠some t)→Tn Tm R D m t=(Tm m).get t
 |0,_,_=>rfl
 |m+1,r,h=>by
  simp only [Tn];by_cases l:D m=true∧(R m).dst=some t
  ·rw [if_pos l]
  ·rw [if_neg l,BN.tn_text (m:=m) (by omega) fun i hi=>h i (by omega)]
   refine (X.tput (by omega) ?_).symm
   cases hD:D m with
   |false=>exact h m (by omega) hD
   |true=>exact fun q=>l ⟨hD,q⟩
omit X in
theorem Jr {D:Nat→Bool} {t:Tmp} {j:Nat}:∀{m:Nat},j≤m→(∀i,j≤i→i<m→D i=true→(R i).dst≠some t)→Tn Tm R D m t=Tn Tm R D j t
 |0,hj,_=>by rw [Nat.le_zero.1 hj]
 |m+1,hj,h=>by
  rcases Nat.lt_or_ge j (m+1) with hlt|hge
  ·simp only [Tn];rw [if_neg,Jr (by omega) fun i h1 h2=>h i h1 (by omega)]
   rintro ⟨hD,q⟩
   exact h m (by omega) (by omega) hD q
  ·rw [show j=m+1 by omega]
omit X in
theorem Si {D:Nat→Bool} {t:Tmp} {j:Nat} (hD:D j=false) (h1:(R j).dst≠some t):∀m,Tn Tm R (ins D j) m t=Tn Tm R D m t
 |0=>rfl
 |m+1=>by
  simp only [Tn];rw [Si hD h1 m];by_cases e:m=j
  ·subst e;rw [if_neg (by rintro ⟨_,q⟩;exact h1 q),if_neg (by rintro ⟨q,_⟩;rw [hD] at q;cases q)]
  ·simp [ins,e]
omit X in
theorem RL {D:Nat→Bool} {t:Tmp} {j m:Nat} (hjm:j<m) (h1:(R j).dst=some t) (h2:∀i,j<i→i<m→D i=true→(R i).dst≠some t):Tn Tm R (ins D j) m t=(Tm (j+1)).get t:=by
 rw [Jr (j:=j+1) hjm fun i a1 a2 hD=>h2 i a1 a2 (by simpa [ins,show i≠j by omega] using hD)]
 simp only [Tn];rw [if_pos ⟨by simp [ins],h1⟩]
end
end Go.AE
namespace Go.AE
variable [Gl:Ax]
variable [U:Unk]
theorem HR.weaken {ρ:Ren} {g l:Nat→Option Ab} {w:World} (h:HR ρ g w) (t:∀b x,ρ b≠none→l b=some x→g b=some x):HR ρ l w:=by
 refine ⟨h.lt,fun b base x j i=>h.blk b base x j (t b x (by rw [j];exact Option.some_ne_none _) i),fun b C base base' I j r J h2=>h.apart b C base base' I j r ?_ ?_,h.imm,fun k arr b base hk j hl=>h.off k arr b base hk j ?_,h.glob⟩
 ·cases i:l b with
  |none=>exact absurd i J
  |some x=>rw [t b x (by rw [j];exact Option.some_ne_none _) i];exact Option.some_ne_none _
 ·cases i:l C with
  |none=>exact absurd i h2
  |some x=>rw [t C x (by rw [r];exact Option.some_ne_none _) i];exact Option.some_ne_none _
 ·cases i:l b with
  |none=>exact absurd i hl
  |some x=>rw [t b x (by rw [j];exact Option.some_ne_none _) i];exact Option.some_ne_none _
structure Inv (nt:Nat) (H:Nat→Aa) (Tm:Nat→T AV) (R:Nat→Rc) (n M:Nat) (ρ0:Ren) (w0:World) (D:Nat→Bool) (ρ:Ren) (tm:Array Value) (w:World):Prop where
 sub:∀j,D j=true→j<n
 closed:∀j,D j=true→∀i,(R j).mask.testBit i=true→D i=true
 size:tm.size=nt
 tmp:∀t x,Tn Tm R D n t=some x→VR ρ x (tm.getD t undef)
 heap:HR ρ (Cn H R D n) w
 free:∀b,(H 0).nx≤b→b<M→ρ b≠none→∃j,D j=true∧(R j).lo≤b∧b<(R j).hi
 le:ρ0.le ρ
 calm:Fu w0 w
 new:∀b base,ρ b=some base→ρ0 b=some base∨((H 0).nx≤b∧b<(H n).nx∧(w0.heap.size≤base.cb∨∃b0 base0,ρ0 b0=some base0∧(H 0).blk.get b0≠none∧base0.cb=base.cb))
 kept:∀k,k<w0.heap.size→(∀b base,ρ0 b=some base→(H 0).blk.get b≠none→base.cb≠k)→w.heap[k]?=w0.heap[k]?
 imm:∀k arr,ρ.imm k=some arr→ρ0.imm k=some arr∨w0.heap.size≤k∨∃b0 base0,ρ0 b0=some base0∧(H 0).blk.get b0≠none∧base0.cb=k
section
variable {E:Env} {callF:Ask→Aa→Option (Bool×AV×Aa)} {all:Array Oper} {nt:Nat} {H:Nat→Aa} {Tm:Nat→T AV} {R:Nat→Rc} {Dd:Nat→Did} {n M:Nat}
 {ρ0 ρ:Ren} {w0 w:World} {tm:Array Value} {D:Nat→Bool} (X:BN E callF all nt H Tm R Dd n)
include X
theorem BN.live {b:Nat} (l:b<(H 0).nx):∀{j:Nat},j≤n→(H j).blk.get b≠none→(H 0).blk.get b≠none
 |0,_,h=>h
 |j+1,r,h=>by
  obtain ⟨o,_,g⟩:=X.good j (by omega)
  rw [g.heap] at h;have:=X.mono (i:=0) (j:=j) (by omega) (by omega)
  rcases Fp (X.wfAt (by omega)) g.tx.nx h with h|h
  ·exact BN.live l (j:=j) (by omega) h
  ·omega
theorem BN.cn_live {b:Nat} (i:b<(H 0).nx):∀{m:Nat},m≤n→Cn H R D m b≠none→(H 0).blk.get b≠none
 |0,_,h=>h
 |m+1,j,h=>by
  simp only [Cn] at h;split at h
  ·exact X.live i (by omega) h
  ·exact BN.cn_live i (m:=m) (by omega) h
theorem BN.disj {i j b:Nat} (hi:i<n) (l:j<n) (r:(R i).lo≤b∧b<(R i).hi) (t:(R j).lo≤b∧b<(R j).hi):i=j:=by
 rcases Nat.lt_trichotomy i j with h|h|h
 ·have:=X.mono (i:=i+1) (j:=j) (by omega) (by omega)
  have a:=X.hi hi;have c:=X.lo l;omega
 ·exact h
 ·have:=X.mono (i:=j+1) (j:=i) (by omega) (by omega)
  have a:=X.hi l;have c:=X.lo hi;omega
theorem BN.agree (I:Inv nt H Tm R n M ρ0 w0 D ρ tm w) (hM:(H n).nx≤M) {j:Nat} (hj:j<n) (hD:D j=false) (J:∀i,(R j).mask.testBit i=true→D i=true) {b:Nat} {x:Ab} (hb:ρ b≠none)
  (hx:(part (H j) (Dd j).fp).blk.get b=some x):Cn H R D n b=some x:=by
 obtain ⟨o,ho,g⟩:=X.good j hj
 have C:(H j).blk.get b=some x∧(∀l,(R j).fp=some l→b∈l):=by
  rw [g.fp];cases r:(Dd j).fp with
  |none=>rw [r] at hx;exact ⟨hx,(fun l hl=>by cases hl)⟩
  |some av=>
   rw [r] at hx;rcases CU (H j) av b with q|⟨q1,q2⟩
   ·simp only [part] at hx;rw [q] at hx;cases hx
   ·exact ⟨q2▸hx,fun l hl=>by cases hl;exact q1⟩
 have a2:b<(H j).nx:=by
  rcases Nat.lt_or_ge b (H j).nx with h|h
  ·exact h
  ·rw [X.wfAt (by omega) b h] at C;cases C.1
 have al:∀i,i<n→i≠j→(i<j→(R j).mask.testBit i=false)→(j<i→(R i).mask.testBit j=false)→b∉(R i).wr:=by
  intro i hi an h1 h2 hm;rcases Nat.lt_or_ge i j with h|h
  ·have a:=X.apart h hj (h1 h);cases r:(R j).fp with
   |none=>rw [a.fp1n r] at hm;cases hm
   |some l=>exact a.fp1 b hm l r (C.2 l r)
  ·have a:=X.apart (show j<i by omega) hi (h2 (by omega))
   cases r:(R j).fp with
   |none=>rw [a.fp2n r] at hm;cases hm
   |some l=>exact a.fp2 b hm l r (C.2 l r)
 have hC:Cn H R D n b=Cn H R D j b:=by
  refine Jh (by omega) fun i h1 h2 t=>?_
  have an:i≠j:=by rintro rfl;rw [hD] at t;cases t
  refine ⟨al i h2 an (fun h=>by omega) fun h=>?_,?_⟩
  ·cases hb:(R i).mask.testBit j with
   |false=>rfl
   |true=>rw [I.closed i t j hb] at hD;cases hD
  ·have:=X.mono (i:=j) (j:=i) h1 (by omega)
   have:=X.lo h2;omega
 rw [hC,X.cn_text (by omega) fun i hi t=>?_,C.1]
 refine ⟨al i (by omega) (by omega) (fun h=>?_) (fun h=>by omega),fun ar=>?_⟩
 ·cases hb:(R j).mask.testBit i with
  |false=>rfl
  |true=>rw [J i hb] at t;cases t
 ·have a6:=X.lo (show i<n by omega)
  have h0:=X.mono (i:=0) (j:=i) (by omega) (by omega)
  have h1:=X.mono (i:=j) (j:=n) (by omega) (by omega)
  obtain ⟨j',ab,a1⟩:=I.free b (by omega) (by omega) hb
  have:=X.disj (show i<n by omega) (I.sub j' ab) ar a1
  subst this;rw [t] at ab;cases ab
theorem BN.tagree (I:Inv nt H Tm R n M ρ0 w0 D ρ tm w) {j:Nat} (hj:j<n) (C:D j=false) (r:∀i,(R j).mask.testBit i=true→D i=true):TR ρ nt (AO (Tm j) (R j).looks) tm:=by
 refine ⟨I.size,fun t x hx=>?_⟩
 obtain ⟨hl,y,hy,rfl⟩:=CZ _ _ _ _ hx;refine LY (I.tmp t y ?_)
 have hT:Tn Tm R D n t=Tn Tm R D j t:=by
  refine Jr (by omega) fun i h1 h2 l J=>?_
  have ab:i≠j:=by rintro rfl;rw [C] at l;cases l
  have a:=X.apart (show j<i by omega) h2 (by
   cases hb:(R i).mask.testBit j with
   |false=>rfl
   |true=>rw [I.closed i l j hb] at C;cases C)
  exact a.look2 t J hl
 rw [hT,X.tn_text (by omega) fun i hi l J=>?_,hy]
 have a:=X.apart hi hj (by
  cases hb:(R j).mask.testBit i with
  |false=>rfl
  |true=>rw [r i hb] at l;cases l)
 exact a.look1 t J hl
end
end Go.AE
namespace Go.AE
variable [Gl:Ax]
variable [U:Unk]
section
variable {E:Env} {callF:Ask→Aa→Option (Bool×AV×Aa)} {all:Array Oper} {nt:Nat} {H:Nat→Aa} {Tm:Nat→T AV} {R:Nat→Rc} {Dd:Nat→Did} {n M:Nat}
 {ρ0 ρ σ:Ren} {w0 w w':World} {tm:Array Value} {D:Nat→Bool} (X:BN E callF all nt H Tm R Dd n)
include X
theorem BN.after (I:Inv nt H Tm R n M ρ0 w0 D ρ tm w) (hM:(H n).nx≤M) {j:Nat} (hj:j<n) (hD:D j=false) (bn:∀i,(R j).mask.testBit i=true→D i=true)
  (q3:HR σ (Dd j).g.blk.get w') (q4:Ext ρ σ (part (H j) (Dd j).fp) (Dd j).g w w'):HR σ (Cn H R (ins D j) n) w':=by
 obtain ⟨o,ho,g⟩:=X.good j hj;have av:(part (H j) (Dd j).fp).nx=(H j).nx:=by cases (Dd j).fp<;>rfl
 have b2:(part (H j) (Dd j).fp).log=[]:=by cases (Dd j).fp<;>rfl
 obtain ⟨l,b4,c3⟩:=q4.log;rw [b2,List.append_nil] at b4;have bs:∀b x,ρ b≠none→(part (H j) (Dd j).fp).blk.get b=some x→Cn H R D n b=some x:=fun b x J hx=>X.agree I hM hj hD bn J hx
 have bv:∀b,(b∈(R j).wr∨((R j).lo≤b∧b<(R j).hi))→∀i,j<i→i<n→D i=true→b∉(R i).wr∧¬((R i).lo≤b∧b<(R i).hi):=by
  intro b J i hi b5 c4
  have a:=X.apart hi b5 (by
   cases J:(R i).mask.testBit j with
   |false=>rfl
   |true=>rw [I.closed i c4 j J] at hD;cases hD)
  have h1:=X.mono (i:=j+1) (j:=i) (by omega) (by omega)
  have h2:=X.hi hj;have h3:=X.lo b5;have h4:=X.lo hj;have h5:=X.le hj;rcases J with J|J
  ·have:=X.wr_lt hj J;exact ⟨a.wr b J,fun h=>by omega⟩
  ·exact ⟨fun h=>a.out b h J,fun h=>by omega⟩
 have an:∀b x,Cn H R (ins D j) n b=some x→((b∈(R j).wr∨((R j).lo≤b∧b<(R j).hi))∧(Dd j).g.blk.get b=some x)∨((b∉(R j).wr∧¬((R j).lo≤b∧b<(R j).hi))∧Cn H R D n b=some x):=by
  intro b x hx;by_cases J:b∈(R j).wr∨((R j).lo≤b∧b<(R j).hi)
  ·refine .inl ⟨J,?_⟩;rw [Rt hj J (bv b J),g.heap] at hx;rcases J with J|J
   ·rw [g.wr] at J;rcases FH J with q|⟨_,q⟩
    ·rw [q] at hx;cases hx
    ·rw [←q];exact hx
   ·rw [g.lo,g.hi] at J;rw [Gp (X.wfAt (by omega)) g.tx.nx J.1 J.2] at hx
    exact hx
  ·have b6:b∉(R j).wr:=fun q=>J (.inl q)
   have cc:¬((R j).lo≤b∧b<(R j).hi):=fun q=>J (.inr q)
   rw [Ur hD b6 cc] at hx;exact .inr ⟨⟨b6,cc⟩,hx⟩
 have al:∀b r x,(b∉(R j).wr∧¬((R j).lo≤b∧b<(R j).hi))→σ b=some r→Cn H R D n b=some x→ρ b=some r∧((part (H j) (Dd j).fp).blk.get b≠none→(Dd j).g.blk.get b=some x):=by
  intro b r x J hs hx
  have ab:ρ b=some r:=by
   rcases q4.new b r hs with h|⟨h1,h2,_⟩
   ·exact h
   ·rw [av] at h1;exact absurd ⟨g.lo▸h1,g.hi▸h2⟩ J.2
  refine ⟨ab,fun hp=>?_⟩
  cases hy:(part (H j) (Dd j).fp).blk.get b with
  |none=>exact absurd hy hp
  |some y=>
   have:=bs b y (by rw [ab];exact Option.some_ne_none _) hy
   rw [hx] at this;cases this
   have cd:b<(H j).nx:=by
    rcases Nat.lt_or_ge b (H j).nx with h|h
    ·exact h
    ·have:=I9 (X.wfAt (j:=j) (by omega)) (Dd j).fp b (by rw [av];exact h)
     rw [this] at hy;cases hy
   rw [c3 b ?_ (.inl (by rw [av];exact cd)),hy]
   intro hm;refine J.1 ?_;rw [g.wr,BZ,b4];exact ⟨hm,cd⟩
 refine ⟨q3.lt,fun b r x hs hx=>?_,fun b b' r t ar hs a1 h1 h2=>?_,q3.imm,fun k arr b r hk hs hl=>?_,q3.glob⟩
 ·rcases an b x hx with ⟨_,hg⟩|⟨J,hc⟩
  ·exact q3.blk b r x hs hg
  ·obtain ⟨ab,a2⟩:=al b r x J hs hc;by_cases hp:(part (H j) (Dd j).fp).blk.get b=none
   ·have hk:=q4.kept r.cb (I.heap.lt b r ab) (fun b0 C a6 a7=>by
     have ar:b0≠b:=by rintro rfl;exact a7 hp
     cases hy:(part (H j) (Dd j).fp).blk.get b0 with
     |none=>exact absurd hy a7
     |some y=>
      have:=bs b0 y (by rw [a6];exact Option.some_ne_none _) hy
      exact I.heap.apart b0 b C r ar a6 ab (by rw [this];exact Option.some_ne_none _) (by rw [hc];exact Option.some_ne_none _))
    rw [hk];exact (I.heap.blk b r x ab hc).mono q4.le
   ·exact q3.blk b r x hs (a2 hp)
 ·have key:∀b b' r t,b≠b'→σ b=some r→σ b'=some t→Cn H R (ins D j) n b≠none→Cn H R (ins D j) n b'≠none→(Dd j).g.blk.get b=none→r.cb≠t.cb:=by
   intro b b' r t ar hs a1 h1 h2 cf;cases hx:Cn H R (ins D j) n b with
   |none=>exact absurd hx h1
   |some x=>
    cases ch:Cn H R (ins D j) n b' with
    |none=>exact absurd ch h2
    |some x'=>
     rcases an b x hx with ⟨_,hg⟩|⟨J,hc⟩
     ·rw [cf] at hg;cases hg
     ·obtain ⟨ab,a2⟩:=al b r x J hs hc
      have hp:(part (H j) (Dd j).fp).blk.get b=none:=by
       cases hp:(part (H j) (Dd j).fp).blk.get b with
       |none=>rfl
       |some y=>have:=a2 (by rw [hp];exact Option.some_ne_none _);rw [cf] at this;cases this
      have bd:Cn H R D n b≠none:=by rw [hc];exact Option.some_ne_none _
      have cm:∀b0 C,ρ b0=some C→(part (H j) (Dd j).fp).blk.get b0≠none→r.cb≠C.cb:=by
       intro b0 C a6 a7;have bm:b≠b0:=by rintro rfl;exact a7 hp
       cases hy:(part (H j) (Dd j).fp).blk.get b0 with
       |none=>exact absurd hy a7
       |some y=>
        have:=bs b0 y (by rw [a6];exact Option.some_ne_none _) hy
        exact I.heap.apart b b0 r C bm ab a6 bd (by rw [this];exact Option.some_ne_none _)
      rcases an b' x' ch with ⟨cv,b1⟩|⟨cv,c1⟩
      ·rcases q4.new b' t a1 with h|⟨_,_,h|⟨b0,C,e1,e2,e3⟩⟩
       ·rcases q4.live b' (by rw [b1];exact Option.some_ne_none _) with hl|⟨hl,c5⟩
        ·exact cm b' t h hl
        ·
         rw [av] at hl;have c7:=X.lo hj;have h0:=X.mono (i:=0) (j:=j) (by omega) (by omega)
         have h1:=X.mono (i:=j+1) (j:=n) (by omega) (by omega)
         have h2:=X.hi hj;rw [g.hi] at h2;obtain ⟨j',b3,c6⟩:=I.free b' (by omega) (by omega) (by rw [h];exact Option.some_ne_none _)
         have:=X.disj hj (I.sub j' b3) ⟨by omega,by rw [g.hi];exact c5⟩ c6
         subst this;rw [hD] at b3;cases b3
       ·have:=I.heap.lt b r ab;omega
       ·rw [←e3];exact cm b0 C e1 e2
      ·obtain ⟨c2,_⟩:=al b' t x' cv a1 c1;exact I.heap.apart b b' r t ar ab c2 bd (by rw [c1];exact Option.some_ne_none _)
  by_cases hg:(Dd j).g.blk.get b=none
  ·exact key b b' r t ar hs a1 h1 h2 hg
  ·by_cases b1:(Dd j).g.blk.get b'=none
   ·exact fun e=>key b' b t r (Ne.symm ar) a1 hs h2 h1 b1 e.symm
   ·exact q3.apart b b' r t ar hs a1 hg b1
 ·cases hx:Cn H R (ins D j) n b with
  |none=>exact absurd hx hl
  |some x=>
   rcases an b x hx with ⟨_,hg⟩|⟨J,hc⟩
   ·exact q3.off k arr b r hk hs (by rw [hg];exact Option.some_ne_none _)
   ·obtain ⟨ab,a2⟩:=al b r x J hs hc;have bd:Cn H R D n b≠none:=by rw [hc];exact Option.some_ne_none _
    by_cases hp:(part (H j) (Dd j).fp).blk.get b=none
    ·rcases q4.imm k arr hk with h|h|⟨b0,C,e1,e2,e3⟩
     ·exact I.heap.off k arr b r h ab bd
     ·have:=I.heap.lt b r ab;omega
     ·have bm:b≠b0:=by rintro rfl;exact e2 hp
      cases hy:(part (H j) (Dd j).fp).blk.get b0 with
      |none=>exact absurd hy e2
      |some y=>
       have:=bs b0 y (by rw [e1];exact Option.some_ne_none _) hy
       rw [←e3];exact I.heap.apart b b0 r C bm ab e1 bd (by rw [this];exact Option.some_ne_none _)
    ·exact q3.off k arr b r hk hs (by rw [a2 hp];exact Option.some_ne_none _)
theorem BN.step (I:Inv nt H Tm R n M ρ0 w0 D ρ tm w) (hM:(H n).nx≤M) (ar:AA ρ0 (H 0).nx M) {j:Nat} (hj:j<n) (hD:D j=false) (C:∀i,(R j).mask.testBit i=true→D i=true) {v':Value}
  (q2:VR σ (Dd j).v v') (q3:HR σ (Dd j).g.blk.get w') (q4:Ext ρ σ (part (H j) (Dd j).fp) (Dd j).g w w'):Inv nt H Tm R n M ρ0 w0 (ins D j) σ (Hf tm (R j).dst v') w':=by
 obtain ⟨o,ho,g⟩:=X.good j hj;have a6:(part (H j) (Dd j).fp).nx=(H j).nx:=by cases (Dd j).fp<;>rfl
 have b2:=X.lo hj;have bd:=X.hi hj;have b3:=X.mono (i:=0) (j:=j) (by omega) (by omega)
 have b4:=X.mono (i:=j+1) (j:=n) (by omega) (by omega)
 have ab:∀J l,ρ J=some l→(part (H j) (Dd j).fp).blk.get J≠none→w0.heap.size≤l.cb∨∃b1 r,ρ0 b1=some r∧(H 0).blk.get b1≠none∧r.cb=l.cb:=by
  intro J l al av;cases hy:(part (H j) (Dd j).fp).blk.get J with
  |none=>exact absurd hy av
  |some y=>
   have hc:=X.agree I hM hj hD C (by rw [al];exact Option.some_ne_none _) hy
   rcases I.new J l al with h|⟨_,_,h⟩
   ·right;refine ⟨J,l,h,?_,rfl⟩
    have an:J<(H 0).nx:=by
     rcases Nat.lt_or_ge J (H 0).nx with q|q
     ·exact q
     ·have an:J<(H j).nx:=by
       rcases Nat.lt_or_ge J (H j).nx with h|h
       ·exact h
       ·have:=I9 (X.wfAt (j:=j) (by omega)) (Dd j).fp J (by rw [a6];exact h)
        rw [this] at hy;cases hy
      have:=X.le hj;rw [ar J q (by omega)] at h;cases h
    exact X.cn_live (D:=D) an (Nat.le_refl n) (by rw [hc];exact Option.some_ne_none _)
   ·exact h
 refine ⟨?_,?_,?_,?_,X.after I hM hj hD C q3 q4,?_,I.le.trans q4.le,I.calm.trans q4.calm,?_,?_,?_⟩
 ·intro i hi;by_cases e:i=j
  ·omega
  ·exact I.sub i (by simpa [ins,e] using hi)
 ·intro i hi k hk;by_cases e:i=j
  ·subst e;have:=C k hk;by_cases e2:k=i
   ·simp [ins,e2]
   ·simpa [ins,e2] using this
  ·have:=I.closed i (by simpa [ins,e] using hi) k hk
   by_cases e2:k=j
   ·simp [ins,e2]
   ·simpa [ins,e2] using this
 ·unfold Hf;split<;>simp [I.size]
 ·intro t x hx;by_cases hd:(R j).dst=some t
  ·rw [RL hj hd (fun i h1 h2 bm bn=>by
    have a:=X.apart h1 h2 (by
     cases hb:(R i).mask.testBit j with
     |false=>rfl
     |true=>rw [I.closed i bm j hb] at hD;cases hD)
    exact a.dst t hd bn)] at hx
   have hp:=g.put;rw [g.dst] at hd;rw [hd] at hp;simp only [DE] at hp;cases hb:Nat.blt t nt with
   |false=>rw [hb] at hp;cases hp
   |true=>
    rw [hb] at hp;simp only [Option.some.injEq] at hp;rw [←hp,T.get_set,if_pos rfl] at hx;cases hx;have an:t<tm.size:=by rw [I.size];simpa [Nat.blt_eq] using hb
    rw [g.dst,hd];simpa [Hf,Array.getD_eq_getD_getElem?,an] using q2
  ·rw [Si hD hd] at hx;have:=(I.tmp t x hx).mono q4.le;unfold Hf;split
   ·rename_i d bs;have bv:d≠t:=by rintro rfl;exact hd bs
    simpa [Array.getD_eq_getD_getElem?,Array.getElem?_setIfInBounds_ne bv] using this
   ·exact this
 ·intro b h1 h2 hb;cases hs:σ b with
  |none=>exact absurd hs hb
  |some base=>
   rcases q4.new b base hs with h|⟨a1,a2,_⟩
   ·obtain ⟨i,hi,hr⟩:=I.free b h1 h2 (by rw [h];exact Option.some_ne_none _)
    refine ⟨i,?_,hr⟩;by_cases e:i=j
    ·simp [ins,e]
    ·simpa [ins,e] using hi
   ·exact ⟨j,by simp [ins],by omega,by rw [g.hi];exact a2⟩
 ·intro b base hs;rcases q4.new b base hs with h|⟨a1,a2,a3⟩
  ·exact I.new b base h
  ·right;rw [g.hi] at bd;refine ⟨by omega,by omega,?_⟩
   rcases a3 with a3|⟨J,l,e1,e2,e3⟩
   ·left;have:=I.calm.size;omega
   ·rw [←e3];exact ab J l e1 e2
 ·intro k hk a7
  rw [q4.kept k (by have:=I.calm.size;omega) (fun J l al av=>by
   rcases ab J l al av with h|⟨b1,r,e1,e2,e3⟩
   ·omega
   ·rw [←e3];exact a7 b1 r e1 e2)]
  exact I.kept k hk a7
 ·intro k arr hk;rcases q4.imm k arr hk with h|h|⟨J,l,e1,e2,e3⟩
  ·exact I.imm k arr h
  ·right;left;have:=I.calm.size;omega
  ·right;rcases ab J l e1 e2 with h|⟨b1,r,f1,f2,f3⟩
   ·left;omega
   ·right;exact ⟨b1,r,f1,f2,f3.trans e3⟩
end
end Go.AE
namespace Go.AE
variable [Gl:Ax]
variable [U:Unk]
theorem Ik {j:Nat}:∀{rest:List Oper} {recs:List Rc},(∀i x,i<j→recs[i]?=some x→x.mask.testBit j=false)→j<recs.length→Es recs j rest=true→∀o∈rest,∃e∈o.after.toList,Region.binds .any e=true∧j≤e.on
 |[],recs,_,_,_,o,n=>by cases n
 |o::rest,recs,m,q,h,x,c=>by
  simp only [Es] at h;cases d:Bu recs o.after.toList with
  |none=>rw [d] at h;cases h
  |some mask=>
   rw [d] at h;simp only [Sa] at h;cases f:mask.testBit j with
   |false=>rw [f] at h;cases h
   |true=>
    rw [f] at h;rcases List.mem_cons.1 c with rfl|c
    ·obtain ⟨e,p,g,y,b,a⟩:=((C5 d).2 j).1 f;refine ⟨e,p,g,?_⟩;rcases Nat.lt_or_ge e.on j with k|l
     ·rcases a with a|a
      ·rw [m e.on y k b] at a;cases a
      ·omega
     ·exact l
    ·refine Ik (recs:=recs++[{wr:=[],fp:=none,lo:=0,hi:=0,dst:=none,looks:=[],mask}]) (fun i y hi b=>?_) (by simp;omega) h x c
     rw [List.getElem?_append_left (by omega)] at b
     exact m i y hi b
theorem Pz {E:Env} {b:Ask→Aa→Option (Bool×AV×Aa)} {all:Array Oper} {o:Oper} {t:T AV} {h:Aa} {d:Did} (a:CE E b all o t h=some d) (c:d.ok=false):d.fp=none:=by
 unfold CE at a;split at a
 ·cases a
 ·cases a;cases c
 ·split at a
  ·simp only at a;split at a
   ·cases a;cases c
   ·cases a
  ·split at a
   ·split at a
    ·cases a;rfl
    ·cases a
   ·split at a
    ·cases a;rfl
    ·cases a
   ·cases a
section
variable {E:Env} {callF:Ask→Aa→Option (Bool×AV×Aa)} {all:Array Oper} {nt:Nat} {H:Nat→Aa} {Tm:Nat→T AV} {R:Nat→Rc} {Dd:Nat→Did} {n M:Nat}
 {ρ0 ρ σ:Ren} {w0 w w':World} {tm:Array Value} {D:Nat→Bool} (X:BN E callF all nt H Tm R Dd n)
include X
omit X in
theorem Ab9 (ht:TR ρ0 nt (Tm 0) tm) (hr:HR ρ0 (H 0).blk.get w0) (hfree:AA ρ0 (H 0).nx M) (hD:∀i,D i=false):Inv nt H Tm R n M ρ0 w0 D ρ0 tm w0:=by
 have hno:∀i,D i≠true:=fun i h=>by rw [hD i] at h;cases h
 refine ⟨fun j h=>absurd h (hno j),fun j h=>absurd h (hno j),ht.size,fun t x hx=>ht.get t x ?_,hr.weaken fun b x hb hx=>?_,fun b h1 h2 hb=>absurd (hfree b h1 h2) hb,Ren.le_refl _,Fu.refl _,fun b base h=>.inl h,fun k hk hno=>rfl,fun k arr h=>.inl h⟩
 ·rw [Jr (j:=0) (Nat.zero_le _) fun i _ _ h=>absurd h (hno i)] at hx;exact hx
 ·rw [Jh (j:=0) (Nat.zero_le _) fun i _ _ h=>absurd h (hno i)] at hx;exact hx
theorem BN.logs:∀{j:Nat},j≤n→∃l,(H j).log=l++(H 0).log∧∀b,b∉l→(b<(H 0).nx∨(H j).nx≤b)→(H j).blk.get b=(H 0).blk.get b
 |0,_=>⟨[],rfl,fun _ _ _=>rfl⟩
 |j+1,C=>by
  obtain ⟨l,h1,h2⟩:=BN.logs (j:=j) (by omega)
  obtain ⟨o,_,g⟩:=X.good j (by omega)
  have I:=X.mono (i:=0) (j:=j) (by omega) (by omega)
  have J:=X.lo (show j<n by omega)
  have hh:=X.hi (show j<n by omega)
  have r:=X.le (show j<n by omega)
  refine ⟨(R j).wr++l,?_,fun b hb ho=>?_⟩
  ·rw [g.heap,g.wr,List.append_assoc,←h1];rfl
  ·simp only [List.mem_append,not_or] at hb;rw [X.stay (by omega) hb.1 (by omega),h2 b hb.2 (by omega)]
theorem BN.final (I:Inv nt H Tm R n M ρ0 w0 D ρ tm w) (hD:∀i,i<n→D i=true):TR ρ nt (Tm n) tm∧HR ρ (H n).blk.get w∧Ext ρ0 ρ (H 0) (H n) w0 w:=by
 have hno:∀i,i<n→D i≠false:=fun i hi h=>by rw [hD i hi] at h;cases h
 refine ⟨⟨I.size,fun t x hx=>I.tmp t x ?_⟩,I.heap.weaken fun b x hb hx=>?_,⟨I.le,X.mono (Nat.zero_le _) (Nat.le_refl _),I.new,I.calm,I.kept,X.logs (Nat.le_refl _),fun b hb=>?_,I.imm⟩⟩
 ·rw [X.tn_text (Nat.le_refl _) fun i hi h=>absurd h (hno i hi)];exact hx
 ·rw [X.cn_text (Nat.le_refl _) fun i hi h=>absurd h (hno i hi)];exact hx
 ·rcases Nat.lt_or_ge b (H 0).nx with h|h
  ·exact .inl (X.live h (Nat.le_refl _) hb)
  ·refine .inr ⟨h,?_⟩;rcases Nat.lt_or_ge b (H n).nx with h'|h'
   ·exact h'
   ·exact absurd (X.wfAt (Nat.le_refl _) b h') hb
omit X in
theorem N9 {j:Nat} {o:Oper} (t:Tx E callF all H Tm R Dd j o) {e:Edge} (he:e∈o.after.toList) (hb:Region.binds .any e=true):e.on<j:=by
 obtain ⟨x,hx⟩:=(C5 t.mask).1 e he hb;have:=(List.getElem?_eq_some_iff.1 hx).1;simpa using this
omit X in
theorem Qv {j:Nat} {o:Oper} (t:Tx E callF all H Tm R Dd j o) (hcl:∀j,D j=true→∀i,(R j).mask.testBit i=true→D i=true)
  (hon:∀e∈o.after.toList,Region.binds .any e=true→D e.on=true) {i:Nat} (hi:(R j).mask.testBit i=true):D i=true:=by
 obtain ⟨e,he,hb,x,hx,h⟩:=((C5 t.mask).2 i).1 hi;have hlt:=N9 t he hb;rw [List.getElem?_map,List.getElem?_range hlt] at hx;simp only [Option.map_some,Option.some.injEq] at hx;subst hx;rcases h with h|h
 ·exact hcl e.on (hon e he hb) i h
 ·rw [h];exact hon e he hb
end
end Go.AE
namespace Go.AE
variable [Gl:Ax]
variable [U:Unk]
theorem LF:∀{l:List Bool} {i:Nat},l[i]?=some false→(l.set i true).count true=l.count true+1
 |[],i,h=>by cases h
 |b::l,0,h=>by
  simp only [List.getElem?_cons_zero,Option.some.injEq] at h;subst h;simp
 |b::l,i+1,h=>by
  have:=LF (l:=l) (i:=i) (by simpa using h)
  simp only [List.set_cons_succ,List.count_cons,this];omega
theorem S9 {a:Array Bool} {i:Nat} (hi:i<a.size):(fun j=>(a.setIfInBounds i true).getD j false)=ins (fun j=>a.getD j false) i:=by
 funext j
 simp only [ins,Array.getD_eq_getD_getElem?];by_cases e:j=i
 ·subst e;simp [hi]
 ·rw [if_neg e,Array.getElem?_setIfInBounds_ne (Ne.symm e)]
section
variable {E:Env} (hE:OK E) {callF:Ask→Aa→Option (Bool×AV×Aa)} (hF:Dx E callF) {all:Array Oper} {nt:Nat} {H:Nat→Aa} {Tm:Nat→T AV} {R:Nat→Rc} {Dd:Nat→Did} {n M:Nat}
 {ρ0:Ren} {w0:World} {k:List Item} {cs:List Frame} (X:BN E callF all nt H Tm R Dd n)
include hE hF X
theorem BN.sched (hM:(H n).nx≤M) (b0:AA ρ0 (H 0).nx M) (c8:n≤all.size)
  (bd:n<all.size→∃o,all[n]?=some o∧Bad E callF all H Tm R Dd n o (all.toList.drop (n+1))) :
  ∀(J t:Nat) (C:Array Bool) (ρ:Ren) (w:World) (c:Frame),c.mode=.run→c.todo=.inRegion all (Region.linearise.go .any all J t C [])::k→C.size=all.size→
   all.size≤J+C.toList.count true→Inv nt H Tm R n M ρ0 w0 (fun i=>C.getD i false) ρ c.tmps w→
   ∃rest σ ar w' D',Inv nt H Tm R n M ρ0 w0 D' σ ar w'∧(∀i,i<n→D' i=true)∧Steps E.P (lone c cs w) (lone {c with tmps:=ar,todo:=.inRegion all rest::k} cs w')∧
    (n=all.size→rest=[])∧(n<all.size→∃r,rest=n::r):=by
 have c2:∀j,j<all.size→j≤n→∃o,all[j]?=some o∧Tx E callF all H Tm R Dd j o:=by
  intro j hj c9;rcases Nat.lt_or_ge j n with h|h
  ·obtain ⟨o,h1,h2⟩:=X.good j h;exact ⟨o,h1,h2.tx⟩
  ·have:j=n:=by omega
   subst this;obtain ⟨o,h1,h2⟩:=bd hj;exact ⟨o,h1,h2.tx⟩
 have bs:∀(C:Array Bool) (ρ:Ren) (w:World) (c:Frame),C.size=all.size→c.todo=.inRegion all []::k→Inv nt H Tm R n M ρ0 w0 (fun i=>C.getD i false) ρ c.tmps w→(∀i,i<all.size→C.getD i false=true)→
   ∃rest σ ar w' D',Inv nt H Tm R n M ρ0 w0 D' σ ar w'∧(∀i,i<n→D' i=true)∧Steps E.P (lone c cs w) (lone {c with tmps:=ar,todo:=.inRegion all rest::k} cs w')∧
    (n=all.size→rest=[])∧(n<all.size→∃r,rest=n::r):=by
  intro C ρ w c a6 ht I bv;refine ⟨[],ρ,c.tmps,w,_,I,fun i hi=>bv i (by omega),?_,fun _=>rfl,fun h=>?_⟩
  ·rw [←ht];exact Steps.refl _ _
  ·exact absurd (I.sub n (bv n h)) (Nat.lt_irrefl _)
 intro J
 induction J with
 |zero=>
  intro t C ρ w c hm ht a6 b4 I;refine bs C ρ w c a6 (by simpa [Region.linearise.go] using ht) I fun i hi=>?_
  have b5:C.toList.count true=C.toList.length:=by
   have:=List.count_le_length (a:=true) (l:=C.toList);have e:C.toList.length=C.size:=Array.length_toList;omega
  have:=(List.count_eq_length.1 b5) (C[i]'(by omega)) (by simp)
  rw [Array.getD_eq_getD_getElem?];simp [a6,hi,←this]
 |succ J ih=>
  intro t C ρ w c hm ht a6 b4 I
  have b6:Region.linearise.go .any all (J+1) t C []=(match (Region.ready .any all C)[t%(Region.ready .any all C).length]? with
   |some i=>Region.linearise.go .any all J (t/(Region.ready .any all C).length) (C.setIfInBounds i true) [i]
   |none=>[].reverse):=rfl
  cases hi:(Region.ready .any all C)[t%(Region.ready .any all C).length]? with
  |none=>
   have cc:Region.ready .any all C=[]:=by
    cases hr:Region.ready .any all C with
    |nil=>rfl
    |cons x xs=>
     rw [hr] at hi;have b1:t%(x::xs).length<(x::xs).length:=Nat.mod_lt _ (by simp)
     simp at hi;simp at b1;omega
   rw [b6,hi] at ht;refine bs C ρ w c a6 ht I fun i=>?_
   induction i using Nat.strongRecOn with
   |ind i cd=>
    intro a7;cases cf:C.getD i false with
    |true=>rfl
    |false=>
     exfalso
     have ab:i≤n:=by
      rcases Nat.lt_or_ge n i with h|h
      ·exact absurd (I.sub n (cd n h (by omega))) (Nat.lt_irrefl _)
      ·exact h
     obtain ⟨o,ho,tx⟩:=c2 i a7 ab
     have:i∈Region.ready .any all C:=by
      unfold Region.ready;rw [List.mem_filter];refine ⟨by simpa using a7,?_⟩
      have h1:C.getD i true=false:=by
       rw [Array.getD_eq_getD_getElem?] at cf ⊢;have:i<C.size:=by omega
       simpa [this] using cf
      simp only [h1,ho,Option.map_some,Option.getD_some,Bool.not_false,Bool.true_and];rw [Array.all_eq_true_iff_forall_mem];intro e he;cases hb:Region.binds .any e with
      |false=>rfl
      |true=>
       have b1:=N9 tx (by simpa using he) hb
       simp [cd e.on b1 (by omega)]
     rw [cc] at this;cases this
  |some i=>
   have bm:i∈Region.ready .any all C:=List.mem_of_getElem? hi;rw [b6,hi] at ht;simp only at ht;rw [linearise_go_acc,List.reverse_singleton,List.singleton_append] at ht;unfold Region.ready at bm;rw [List.mem_filter] at bm;obtain ⟨a7,bn⟩:=bm;simp only [List.mem_range] at a7;simp only [Bool.and_eq_true,Bool.not_eq_true'] at bn;obtain ⟨ch,al⟩:=bn
   have av:C.getD i false=false:=by
    rw [Array.getD_eq_getD_getElem?] at ch ⊢;have:i<C.size:=by omega
    simpa [this] using ch
   have b2:∀o,all[i]?=some o→∀e∈o.after.toList,Region.binds .any e=true→C.getD e.on false=true:=by
    intro o ho e he hb;rw [ho] at al;simp only [Option.map_some,Option.getD_some] at al;rw [Array.all_eq_true_iff_forall_mem] at al;have:=al e (by simpa using he)
    simpa [hb] using this
   rcases Nat.lt_trichotomy i n with ab|ab|ab
   ·obtain ⟨o,ho,g⟩:=X.good i ab;have an:∀q,(R i).mask.testBit q=true→(fun i=>C.getD i false) q=true:=fun q hq=>Qv (D:=fun i=>C.getD i false) g.tx I.closed (b2 o ho) hq
    have hD:(fun i=>C.getD i false) i=false:=av
    have cm:=X.tagree I ab hD an;rw [g.looks] at cm;have dd:=X.lo ab;have c3:=X.hi ab;have df:=X.mono (i:=0) (j:=i) (by omega) (by omega)
    have ds:=X.mono (i:=i+1) (j:=n) (by omega) (by omega)
    rw [g.hi] at c3
    have c4:AA ρ (H i).nx (Dd i).g.nx:=by
     intro b h1 h2;cases hb:ρ b with
     |none=>rfl
     |some c7=>
      obtain ⟨j',b3,c5⟩:=I.free b (by omega) (by omega) (by rw [hb];exact Option.some_ne_none _)
      have:=X.disj ab (I.sub j' b3) ⟨by omega,by rw [g.hi];exact h2⟩ c5
      subst this;rw [av] at b3;cases b3
    obtain ⟨σ,v',w',q1,q2,q3,q4⟩:=LP hE hF (cs:=cs) g.tx.did (X.wfAt (by omega)) hm ht ho cm (I.heap.weaken fun b x hb hx=>X.agree I hM ab hD an hb hx) c4
    have I':=X.step I hM b0 ab hD an q2 q3 q4;rw [←S9 (by omega)] at I'
    rw [g.ok] at q1
    have cv:c.finish v'={c with tmps:=Hf c.tmps (R i).dst v',todo:=.inRegion all (Region.linearise.go .any all J (t/(Region.ready .any all C).length) (C.setIfInBounds i true) [])::k}:=by
     simp only [Frame.finish,ht,ho,Option.bind_some,Hf,g.dst];cases o.dst<;>rfl
    simp only [BM] at q1;rw [cv] at q1
    obtain ⟨rest,τ,ar,w2,D',r1,r2,r3,r4,r5⟩:=ih _ (C.setIfInBounds i true) σ w' {c with tmps:=Hf c.tmps (R i).dst v',todo:=.inRegion all (Region.linearise.go .any all J (t/(Region.ready .any all C).length) (C.setIfInBounds i true) [])::k} hm rfl (by simp [a6]) (by
     rw [Array.toList_setIfInBounds,LF]
     ·omega
     ·have:i<C.size:=by omega
      rw [Array.getD_eq_getD_getElem?] at av;simpa [this] using av) I'
    exact ⟨rest,τ,ar,w2,D',r1,r2,Steps.trans q1 r3,r4,r5⟩
   ·subst ab;obtain ⟨o,ho,b⟩:=bd a7;refine ⟨i::Region.linearise.go .any all J (t/(Region.ready .any all C).length) (C.setIfInBounds i true) [],ρ,c.tmps,w,_,I,fun q hq=>?_,?_,fun h=>by omega,fun _=>⟨_,rfl⟩⟩
    ·refine Qv (D:=fun i=>C.getD i false) b.tx I.closed (b2 o ho) ?_
     have:(R i).mask=2^i-1:=by have:=b.all;omega
     rw [this,Nat.testBit_two_pow_sub_one];simpa using hq
    ·rw [←ht];exact Steps.refl _ _
   ·exfalso
    obtain ⟨o,ho,b⟩:=bd (by omega)
    obtain ⟨recs,a1,a2,a3⟩:=b.after;have c6:all[i]?=some all[i]:=by simp [a7]
    have:=Ik (recs:=recs++[{wr:=[],fp:=none,lo:=0,hi:=0,dst:=none,looks:=[],mask:=(R n).mask}]) (fun q x hq hx=>?_) (by simp [a1]) a3 all[i] ?_
    ·obtain ⟨e,he,hb,du⟩:=this;have:=b2 _ c6 e he hb;have:=I.sub e.on this;omega
    ·rw [List.getElem?_append_left (by omega),a2,List.getElem?_map,List.getElem?_range hq] at hx
     simp only [Option.map_some,Option.some.injEq] at hx;subst hx;cases c1:(R q).mask.testBit n with
     |false=>rfl
     |true=>have:=X.bits hq c1;omega
    ·rw [List.mem_iff_getElem?];refine ⟨i-(n+1),?_⟩;rw [List.getElem?_drop];rw [show n+1+(i-(n+1))=i by omega]
     simp
end
end Go.AE
namespace Go.AE
variable [Gl:Ax]
variable [U:Unk]
theorem EW {f:AF} {cs:List AF} {v b:AV} {h c:Aa} {ok:Bool} (a:Ca f cs v h=.done ok b c):cs=[]∧f.kind=.normal∧ok=true∧b=v∧c=h:=by
 unfold Ca at a;split at a
 ·split at a
  ·split at a<;>cases a
  ·split at a<;>cases a
  ·cases a
 ·split at a
  ·rename_i d;cases a;exact ⟨rfl,d,rfl,rfl,rfl⟩
  ·cases a
theorem EE {f:AF} {cs:List AF} {v:AV} {h:Aa} {s:AS} {ops:Array Oper} {k:List AI}:Ca f cs v h≠.draw s ops k:=by
 intro a;unfold Ca at a;split at a
 ·split at a
  ·split at a<;>cases a
  ·split at a<;>cases a
  ·cases a
 ·split at a<;>cases a
theorem D5 {E:Env} {f:AF} {cs:List AF} {r:Res}:(∃s,Bk E f cs r=.next s)∨∃y,Bk E f cs r=.bad y:=by
 cases r<;>simp only [Bk]<;>repeat' (first|exact .inl ⟨_,rfl⟩|exact .inr ⟨_,rfl⟩|split)
theorem G3 {E:Env} {s:AS} {f:Operand} {c:List Tmp} {a b:Code} {k:List AI}:(∃d,FT E s f c a b k=.next d)∨∃y,FT E s f c a b k=.bad y:=by
 unfold FT
 repeat' (first|exact .inl ⟨_,rfl⟩|exact .inr ⟨_,rfl⟩|split)
theorem D6 {f:AF} {cs:List AF} {h:Aa} {j:Option Code} {s:AS} {ops:Array Oper} {k:List AI}:C7 f cs h j≠.draw s ops k:=by
 intro a;unfold C7 at a;split at a
 ·split at a<;>cases a
 ·split at a
  ·exact EE a
  ·cases a
theorem LV {E:Env} {f:AF} {cs:List AF} {h:Aa} {s:AS} {ops:Array Oper} {k:List AI}:Dn E f cs h≠.draw s ops k:=by
 intro a;unfold Dn at a;split at a
 ·split at a
  ·split at a<;>cases a
  ·split at a
   ·split at a<;>cases a
   ·cases a
 ·split at a
  ·cases a
  ·split at a
   ·split at a<;>cases a
   ·split at a
    ·split at a<;>cases a
    ·cases a
  ·split at a
   ·split at a
    ·exact EE a
    ·exact EE a
    ·cases a
   ·cases a
theorem Cf {E:Env} {s b:AS} {ops:Array Oper} {k:List AI} (a:AU E s=.draw b ops k):b=s∧s.fr.mode=.run∧∃id,s.fr.todo=.code (.region id ops true)::k:=by
 unfold AU at a;simp only at a;split at a
 ·rename_i d;split at a
  ·exact absurd a D6
  ·cases a
  ·cases a
  ·cases a
  ·cases a
  ·split at a
   ·rcases D5 (E:=E) (f:=s.fr) (cs:=s.cs) (r:=aop E s.fr.tmps s.h _) with ⟨y,h⟩|⟨y,h⟩<;>(rw [h] at a;cases a)
   ·rcases D5 (E:=E) (f:=s.fr) (cs:=s.cs) (r:=.val .undef s.h) with ⟨y,h⟩|⟨y,h⟩<;>(rw [h] at a;cases a)
   ·cases a
  ·cases a
  ·cases a
  ·cases a
  ·split at a
   ·split at a<;>cases a
   ·cases a
  ·split at a
   ·split at a<;>cases a
   ·cases a
  ·rename_i c k2 e;split at a
   ·exact absurd a D6
   ·cases a
   ·cases a
   ·cases a
   ·split at a
    ·cases a
    ·cases a
    ·split at a
     ·split at a<;>cases a
     ·cases a
    ·cases a
   ·cases a
   ·cases a
   ·cases a
   ·split at a
    ·cases a
    ·split at a
     ·cases a
     ·exact absurd a D6
   ·split at a
    ·cases a
    ·split at a
     ·cases a
     ·exact absurd a D6
   ·rcases G3 (E:=E) (s:=s) with ⟨y,h⟩|⟨y,h⟩<;>(rw [h] at a;cases a)
   ·split at a
    ·cases a
    ·cases a;exact ⟨rfl,d,_,e⟩
   ·cases a
 ·exact absurd a LV
end Go.AE
namespace Go.AE
variable [Gl:Ax]
variable [U:Unk]
def sE (ok:Bool) (v:Value):Ending:=match ok with
 |true=>.returned v
 |false=>.panicked [{v:=v,recovered:=false}]
def dU (c0:Frame) (ok:Bool) (v:Value):Frame:=match ok with
 |true=>c0.finish v
 |false=>c0.raise [{v:=v,recovered:=false}]
structure IY (P:Program) (cf:Frame) (w:World) (ok:Bool) (v':Value) (w':World):Prop where
 back:∀(c0:Frame) (base:List Frame),step P (lone cf (c0::base) w)=.next (lone (dU c0 ok v') base w')
 leaves:cf.roundOf=none→w'=w∧cf.leaving P w (sE ok v')
section
variable {E:Env} (hE:OK E) {ρ:Ren} {h h2:Aa} {w:World} {c:Frame} {f:AF} {cs:List AF} {ccs base:List Frame} {s s':AS} {ok:Bool} {v:AV}
theorem FrL.nil_inv {ρ:Ren} {l:List Frame} (h:FrL ρ [] l):l=[]:=by cases h;rfl
theorem DY (hr:HR ρ h.blk.get w) (n:FrR ρ f c) (p:c.mode=.run) {a:Option Code}
  (q:(c.todo=[]∧a=none)∨(∃k,c.todo=.code .ret::k∧a=some .ret)∨(∃id k,c.todo=.code (.exit id)::k∧exitTo id k=none∧a=some (.exit id))∨(∃l k,c.todo=.code (.goto l)::k∧gotoIn l k=none∧a=some (.goto l)))
  (g:C7 f cs h a=.done ok v h2):cs=[]∧∃o i,VR ρ v o∧HR ρ h2.blk.get i∧Ext ρ ρ h h2 w i∧IY E.P c w ok o i:=by
 have e:=n.round;unfold C7 at g;split at g
 ·split at g<;>cases g
 ·rename_i l m;rw [m] at e;obtain ⟨b,r,j⟩:=e.some_inv;split at g
  ·rename_i st pending fn nt tmps params assign body d t;obtain ⟨i,u,x,y⟩:=Im (E:=E) hr r t a;obtain ⟨rfl,z,rfl,rfl,rfl⟩:=EW g;refine ⟨rfl,_,i,.bool _,x,y,⟨fun c0 base=>NI p j (n.kind.trans z) q u,fun h=>by rw [j] at h;cases h⟩⟩
  ·cases g
include hE
theorem Mz (hr:HR ρ h.blk.get w) (k:FrR ρ f c) (N:c.mode≠.run) (d:Dn E f cs h=.done ok v h2):cs=[]∧∃m y,VR ρ v m∧HR ρ h2.blk.get y∧Ext ρ ρ h h2 w y∧IY E.P c w ok m y:=by
 have g:=k.defers;unfold Dn at d;split at d
 ·split at d
  ·split at d<;>cases d
  ·split at d
   ·split at d<;>cases d
   ·cases d
 ·rename_i z;rw [z] at g
  have i:c.defers=[]:=by
   cases i:c.defers with
   |nil=>rfl
   |cons O L=>rw [i] at g;exact g.elim
  have b:=k.mode;split at d
  ·cases d
  ·rename_i A p;rw [p] at b;split at d
   ·split at d<;>cases d
   ·split at d
    ·split at d
     ·rename_i fn q;cases d;generalize j:c.mode=Q at b;cases b with
      |panic _ B u=>
       cases B with
       |nil=>exact u.elim
       |cons e r=>
        obtain ⟨G,h2,H,M⟩:=u;cases r with
        |cons _ _=>exact M.elim
        |nil=>
         obtain ⟨I,R,S⟩:=e;simp only at G h2 H;subst h2;subst H;have n:c.leaving E.P w (.panicked [{v:=I,recovered:=false}]):=⟨j,i,fn,by rw [k.fn];exact hE.fn _ _ q⟩
         exact ⟨rfl,I,w,G,hr,Ext.refl _ _ _,⟨fun c0 base=>step_leave_panicked n,fun _=>⟨rfl,n⟩⟩⟩
     ·cases d
    ·cases d
  ·rename_i p;rw [p] at b
   have j:c.mode=.returning:=by
    generalize c.mode=x at b;cases b;rfl
   split at d
   ·rename_i fn q;have o:E.P.funcs[c.fn]?=some fn:=by rw [k.fn];exact hE.fn _ _ q
    split at d
    ·rename_i v t;obtain ⟨m,C,J,K⟩:=EK hE hr k t;obtain ⟨rfl,D,rfl,rfl,rfl⟩:=EW d;have n:c.leaving E.P w (.returned m):=⟨j,i,k.kind.trans D,fn,o,C⟩;exact ⟨rfl,m,w,J _ rfl,hr,Ext.refl _ _ _,⟨fun c0 base=>step_leave_returned n,fun _=>⟨rfl,n⟩⟩⟩
    ·rename_i l F t;obtain ⟨m,C,J,K⟩:=EK hE hr k t;obtain ⟨rfl,D,rfl,rfl,rfl⟩:=EW d;have n:c.leaving E.P w (.returned m):=⟨j,i,k.kind.trans D,fn,o,C⟩;exact ⟨rfl,m,w,K fun a e=>F a (by rw [e]),hr,Ext.refl _ _ _,⟨fun c0 base=>step_leave_returned n,fun _=>⟨rfl,n⟩⟩⟩
    ·cases d
   ·cases d
theorem GD (d:SR ρ s c ccs w) (b:AU E s=.done ok v h2):ccs=[]∧∃n j,VR ρ v n∧HR ρ h2.blk.get j∧Ext ρ ρ s.h h2 w j∧IY E.P c w ok n j:=by
 have g:=d.fr.mode;have e:=d.fr.todo
 suffices z:s.cs=[]∧∃n j,VR ρ v n∧HR ρ h2.blk.get j∧Ext ρ ρ s.h h2 w j∧IY E.P c w ok n j by
  obtain ⟨A,h2⟩:=z;have o:=d.cs;rw [A] at o;exact ⟨o.nil_inv,h2⟩
 unfold AU at b;simp only at b;split at b
 ·rename_i l;rw [l] at g
  have p:c.mode=.run:=by
   generalize c.mode=x at g;cases g;rfl
  split at b
  ·rename_i q;rw [q] at e;generalize i:c.todo=B at e;cases e;exact DY d.h d.fr p (.inl ⟨i,rfl⟩) b
  ·cases b
  ·cases b
  ·cases b
  ·cases b
  ·split at b
   ·rcases D5 (E:=E) (f:=s.fr) (cs:=s.cs) (r:=aop E s.fr.tmps s.h _) with ⟨y,h⟩|⟨y,h⟩<;>(rw [h] at b;cases b)
   ·rcases D5 (E:=E) (f:=s.fr) (cs:=s.cs) (r:=.val .undef s.h) with ⟨y,h⟩|⟨y,h⟩<;>(rw [h] at b;cases b)
   ·cases b
  ·cases b
  ·cases b
  ·cases b
  ·split at b
   ·split at b<;>cases b
   ·cases b
  ·split at b
   ·split at b<;>cases b
   ·cases b
  ·rename_i C k q;rw [q] at e;generalize i:c.todo=B at e;cases e with|cons a u=>
   cases a;split at b
   ·exact DY d.h d.fr p (.inr (.inl ⟨_,i,rfl⟩)) b
   ·cases b
   ·cases b
   ·cases b
   ·split at b
    ·cases b
    ·cases b
    ·split at b
     ·split at b<;>cases b
     ·cases b
    ·cases b
   ·cases b
   ·cases b
   ·cases b
   ·split at b
    ·cases b
    ·rename_i t;split at b
     ·cases b
     ·rename_i m;exact DY d.h d.fr p (.inr (.inr (.inl ⟨_,_,i,(J1 u).2 t m,rfl⟩))) b
   ·split at b
    ·cases b
    ·rename_i t;split at b
     ·cases b
     ·rename_i m;exact DY d.h d.fr p (.inr (.inr (.inr ⟨_,_,i,(J2 u).2 t m,rfl⟩))) b
   ·rcases G3 (E:=E) (s:=s) with ⟨y,h⟩|⟨y,h⟩<;>(rw [h] at b;cases b)
   ·split at b<;>cases b
   ·cases b
 ·rename_i l;exact Mz hE d.h d.fr (F8.not_run g l) b
end
end Go.AE
namespace Go.AE
variable [Gl:Ax]
@[reducible] def Al6:Unk:={facts:=[],V:=⟨fun _=>default,fun _ d=>d⟩,K:=fun _=>none,R:=[],hR:=fun _ _ _ _ _ h=>(by cases h),ok:=by simp}
def Fy:SE→SE
 |.nilIs y _=>Fy y
 |.nilL=>.c 0
 |.emptyL=>.c 0
 |.upd a _ _ _=>Fy a
 |.cat a b=>match Fy a with
  |.c n=>match n==0 with
   |true=>Fy b
   |false=>.lenL (.cat a b)
  |_=>.lenL (.cat a b)
 |.snoc a r=>match Fy a with
  |.c n=>.c (n+1)
  |_=>.lenL (.snoc a r)
 |x=>.lenL x
def HL:SE→SE
 |.nilIs _ b=>b
 |.nilL=>.bc true
 |.emptyL=>.bc false
 |.snoc _ _=>.bc false
 |.rep _ _=>.bc false
 |.upd a _ _ _=>HL a
 |x=>.isNil x
def SW:SE→SE→SE
 |.bc true,b=>b
 |.bc false,_=>.bc false
 |_,.bc false=>.bc false
 |a,.bc true=>a
 |a,b=>.and a b
def SE.isB:SE→Bool
 |.bc _=>true
 |.lss _ _=>true
 |.eql _ _=>true
 |.eqS _ _ _=>true
 |.eqSS _ _=>true
 |.isNil _=>true
 |.neg _=>true
 |.and _ _=>true
 |_=>false
def rg:SE→SE
 |.bc b=>.bc (!b)
 |x=>.neg x
def Yg:SE→SE→SE
 |.c n,.c m=>.bc (n==m)
 |a,b=>match a.same b with
  |true=>.bc true
  |false=>.eql a b
def X9:SE→SE→SE
 |.c n,.c m=>.bc (decide (n<m))
 |a,b=>.lss a b
def SE.norm:SE→SE
 |.lenL a=>Fy a.norm
 |.isNil a=>match (HL a.norm).isB with
  |true=>HL a.norm
  |false=>.isNil a.norm
 |.and a b=>match (SW a.norm b.norm).isB with
  |true=>SW a.norm b.norm
  |false=>.and a.norm b.norm
 |.neg a=>rg a.norm
 |.nilIs a b=>.nilIs a.norm b.norm
 |.eql a b=>Yg a.norm b.norm
 |.lss a b=>X9 a.norm b.norm
 |.arith l k a b=>.arith l k a.norm b.norm
 |.cell a i j=>.cell a.norm i.norm j
 |.snoc a r=>.snoc a.norm r.norm
 |.rcons x r=>.rcons x.norm r.norm
 |.upd a i j x=>.upd a.norm i.norm j x.norm
 |.sel a j=>.sel a.norm j
 |.app g a=>.app g a.norm
 |.cat a b=>.cat a.norm b.norm
 |.rmv a i=>.rmv a.norm i.norm
 |.mIdx ks a k=>.mIdx ks a.norm k.norm
 |e=>e
theorem S5 (V:Val):∀x:SE,Af V (Fy x)=.int ((Af V x).rows.length:Nat):=by
 intro x
 induction x
 case nilIs y b ih _=>simp only [Fy,ih,Af,D.rows]
 case upd a i j x ih _ _=>simp only [Fy,ih,Af,D.rows,List.length_modify]
 case cat a b c d=>
  simp only [Fy];split
  ·rename_i n h;split
   ·rename_i f;have f:=eq_of_beq f;subst f;rw [h] at c
    have h0:(Af V a).rows.length=0:=by
     simp only [Af,D.int.injEq] at c;omega
    rw [d];have e:(Af V (.cat a b)).rows=(Af V a).rows++(Af V b).rows:=rfl;rw [e,List.length_append,h0,Nat.zero_add]
   ·rfl
  ·rfl
 case snoc a r ih _=>
  simp only [Fy];split
  ·rename_i n h;rw [h] at ih;simp only [Af,D.int.injEq,D.rows,List.length_append,List.length_singleton] at ih ⊢;omega
  ·rfl
 all_goals rfl
theorem RF (V:Val):∀x:SE,(HL x).isB=true→Af V (HL x)=.bool (Af V x).isNil:=by
 intro x
 induction x<;>intro c<;>first|rfl|skip
 case upd a i j x ih _ _=>exact ih c
 case nilIs y b _ _=>
  simp only [HL] at c ⊢;cases b<;>first|rfl | (simp [SE.isB] at c;done)|skip
theorem L6 (V:Val) {x:SE} (h:x.isB=true):Af V x=.bool (Af V x).toBool:=by
 cases x<;>first|rfl | (simp [SE.isB] at h;done)
theorem Wd (V:Val) (a b:SE) (h:(SW a b).isB=true):Af V (SW a b)=Af V (.and a b):=by
 unfold SW at h ⊢;split
 ·simp only at h;rw [L6 V h];simp only [Af,D.toBool,Bool.true_and]
 ·simp only [Af,D.toBool,Bool.false_and]
 ·simp only [Af,D.toBool,Bool.and_false]
 ·simp only at h;rw [L6 V h];simp only [Af,D.toBool,Bool.and_true]
 ·rfl
theorem Vr (V:Val) (a b:SE):Af V (Yg a b)=Af V (.eql a b):=by
 unfold Yg;split
 ·rfl
 ·split
  ·rename_i h;rw [SE.same_ok (U:=Al6) h];simp only [Af,beq_self_eq_true]
  ·rfl
theorem VD (V:Val) (a b:SE):Af V (X9 a b)=Af V (.lss a b):=by
 unfold X9;split<;>rfl
theorem B2 (V:Val):∀e:SE,Af V e.norm=Af V e:=by
 intro e
 induction e
 case lenL a ih=>simp only [SE.norm,S5,ih];rfl
 case isNil a ih=>
  simp only [SE.norm];split
  ·rename_i h;rw [RF V _ h,ih];rfl
  ·simp only [Af,ih]
 case and a b c d=>
  simp only [SE.norm];split
  ·rename_i h;rw [Wd V _ _ h];simp only [Af,c,d]
  ·simp only [Af,c,d]
 case neg a ih=>
  simp only [SE.norm];unfold rg;split
  ·rename_i b h;rw [h] at ih;simp only [Af] at ih ⊢;rw [←ih];rfl
  ·simp only [Af,ih]
 case eql a b c d=>simp only [SE.norm,Vr,Af,c,d]
 case lss a b c d=>simp only [SE.norm,VD,Af,c,d]
 all_goals simp_all only [SE.norm,Af]
end Go.AE
namespace Go.AE
variable [Gl:Ax]
def eqD {c:Type} [DecidableEq c] (a b:c):Bool:=decide (a=b)
theorem B6 {c:Type} [DecidableEq c] {a b:c} (h:eqD a b=true):a=b:=of_decide_eq_true h
theorem AM {i j:Nat} (h:Nat.beq i j=true):i=j:=Nat.eq_of_beq_eq_true h
def ME:Value→Value→Bool
 |.bool a,.bool b=>eqD a b
 |.int k a,.int c b=>eqD k c&&eqD a b
 |.string a,.string b=>eqD a.data.toList b.data.toList
 |.pointer none,.pointer none=>true
 |.slice none a b,.slice none d e=>Nat.beq a d&&Nat.beq b e
 |.map none,.map none=>true
 |.nilFunc,.nilFunc=>true
 |.nilIface,.nilIface=>true
 |_,_=>false
theorem O8 {a b:Value} (h:ME a b=true):a=b:=by
 unfold ME at h;split at h<;>first|rfl | (cases h;done)|skip
 ·rw [B6 h]
 ·simp only [Bool.and_eq_true] at h;rw [B6 h.1,B6 h.2]
 ·rename_i a b;have:=B6 h
  have e:a=b:=by
   cases a;cases b;simp only [ByteArray.mk.injEq];exact Array.ext' this
  rw [e]
 ·simp only [Bool.and_eq_true] at h;rw [AM h.1,AM h.2]
def Az:Operand→Operand→Bool
 |.tmp a,.tmp b=>Nat.beq a b
 |.const a,.const b=>ME a b
 |.global a,.global b=>Nat.beq a b
 |.func a,.func b=>Nat.beq a b
 |_,_=>false
theorem Am {a b:Operand} (h:Az a b=true):a=b:=by
 unfold Az at h;split at h<;>first | (cases h;done)|skip
 ·rw [AM h]
 ·rw [O8 h]
 ·rw [AM h]
 ·rw [AM h]
def ET {c:Type} (d:c→c→Bool):List c→List c→Bool
 |[],[]=>true
 |a::l,b::m=>d a b&&ET d l m
 |_,_=>false
theorem FQ {c:Type} {d:c→c→Bool} (e:∀a b,d a b=true→a=b):∀{l m:List c},ET d l m=true→l=m
 |[],[],_=>rfl
 |a::l,b::m,h=>by
  simp only [ET,Bool.and_eq_true] at h;rw [e a b h.1,FQ e h.2]
 |[],_::_,h=>by cases h
 |_::_,[],h=>by cases h
def IF {c:Type} (d:c→c→Bool) (a b:Array c):Bool:=ET d a.toList b.toList
theorem DN {c:Type} {d:c→c→Bool} (e:∀a b,d a b=true→a=b) {a b:Array c} (h:IF d a b=true):a=b:=Array.ext' (FQ e h)
def Ql (a b:Array Operand):Bool:=IF Az a b
theorem J6 {a b:Array Operand} (h:Ql a b=true):a=b:=DN (fun _ _=>Am) h
def bT (a b:Array (Nat×Operand)):Bool:=IF (fun x y=>Nat.beq x.1 y.1&&Az x.2 y.2) a b
theorem QD {a b:Array (Nat×Operand)} (h:bT a b=true):a=b:=DN (fun x y h=>by
 simp only [Bool.and_eq_true] at h;exact Prod.ext (AM h.1) (Am h.2)) h
def Oe {c:Type} (d:c→c→Bool):Option c→Option c→Bool
 |none,none=>true
 |some a,some b=>d a b
 |_,_=>false
theorem Hw {c:Type} {d:c→c→Bool} (e:∀a b,d a b=true→a=b) {a b:Option c} (h:Oe d a b=true):a=b:=by
 cases a<;>cases b<;>first|rfl | (cases h;done)|skip
 rw [e _ _ h]
def Ty (a b:Option Operand):Bool:=Oe Az a b
theorem I7 {a b:Option Operand} (h:Ty a b=true):a=b:=Hw (fun _ _=>Am) h
def TD:Fn→Fn→Bool
 |.func f,.func g=>Nat.beq f g
 |.method n,.method m=>eqD n m
 |_,_=>false
theorem Ub {a b:Fn} (h:TD a b=true):a=b:=by
 unfold TD at h;split at h<;>first | (cases h;done)|skip
 ·rw [AM h]
 ·rw [B6 h]
def JZ:Callee→Callee→Bool
 |.value f,.value g=>Az f g
 |.invoke r n,.invoke a c=>Az r a&&eqD n c
 |.builtin b,.builtin d=>eqD b d
 |_,_=>false
theorem Of {a b:Callee} (h:JZ a b=true):a=b:=by
 unfold JZ at h;split at h<;>first | (cases h;done)|skip
 ·rw [Am h]
 ·simp only [Bool.and_eq_true] at h;rw [Am h.1,B6 h.2]
 ·rw [B6 h]
def Mx (a b:Call):Bool:=JZ a.callee b.callee&&Ql a.args b.args&&IF Nat.beq a.argTypes b.argTypes
theorem LD {a b:Call} (h:Mx a b=true):a=b:=by
 cases a;cases b;simp only [Mx,Bool.and_eq_true] at h;simp only [Call.mk.injEq];exact ⟨Of h.1.1,J6 h.1.2,DN (fun _ _=>AM) h.2⟩
def eO:Op→Op→Bool
 |.move x0,.move a=>Az x0 a
 |.assign x0,.assign a=>Az x0 a
 |.pick x0 x1 b,.pick a y1 y2=>Az x0 a&&Az x1 y1&&Az b y2
 |.alloc x0,.alloc a=>Nat.beq x0 a
 |.box x0 x1,.box a y1=>Nat.beq x0 a&&Az x1 y1
 |.build x0 x1,.build a y1=>Nat.beq x0 a&&bT x1 y1
 |.buildSlice x0 x1 b,.buildSlice a y1 y2=>Nat.beq x0 a&&Nat.beq x1 y1&&bT b y2
 |.insert x0 x1 b c,.insert a y1 y2 y3=>Nat.beq x0 a&&Az x1 y1&&Az b y2&&Az c y3
 |.load x0 x1,.load a y1=>Nat.beq x0 a&&Az x1 y1
 |.store x0 x1 b,.store a y1 y2=>Nat.beq x0 a&&Az x1 y1&&Az b y2
 |.ready x0,.ready a=>Nat.beq x0 a
 |.waits x0,.waits a=>Nat.beq x0 a
 |.nilCheck x0,.nilCheck a=>Az x0 a
 |.binOp x0 x1 b c d,.binOp a y1 y2 y3 y4=>eqD x0 a&&Nat.beq x1 y1&&Az b y2&&Az c y3&&Nat.beq d y4
 |.unOp x0 x1 b,.unOp a y1 y2=>eqD x0 a&&Nat.beq x1 y1&&Az b y2
 |.convert x0 x1 b,.convert a y1 y2=>Nat.beq x0 a&&Nat.beq x1 y1&&Az b y2
 |.sliceToArrayPointer x0 x1,.sliceToArrayPointer a y1=>Nat.beq x0 a&&Az x1 y1
 |.makeInterface x0 x1,.makeInterface a y1=>Nat.beq x0 a&&Az x1 y1
 |.makeFunc x0 x1 b,.makeFunc a y1 y2=>TD x0 a&&Ql x1 y1&&Ql b y2
 |.makeMap x0 x1,.makeMap a y1=>Nat.beq x0 a&&Ty x1 y1
 |.makeSlice x0 x1 b,.makeSlice a y1 y2=>Nat.beq x0 a&&Az x1 y1&&Az b y2
 |.slice x0 x1 b c d,.slice a y1 y2 y3 y4=>Nat.beq x0 a&&Az x1 y1&&Ty b y2&&Ty c y3&&Ty d y4
 |.fieldAddr x0 x1 b,.fieldAddr a y1 y2=>Nat.beq x0 a&&Az x1 y1&&Nat.beq b y2
 |.field x0 x1 b,.field a y1 y2=>Nat.beq x0 a&&Az x1 y1&&Nat.beq b y2
 |.indexAddr x0 x1 b,.indexAddr a y1 y2=>Nat.beq x0 a&&Az x1 y1&&Az b y2
 |.index x0 x1 b,.index a y1 y2=>Nat.beq x0 a&&Az x1 y1&&Az b y2
 |.lookup x0 x1 b c,.lookup a y1 y2 y3=>Nat.beq x0 a&&Az x1 y1&&Az b y2&&eqD c y3
 |.mapUpdate x0 x1 b c,.mapUpdate a y1 y2 y3=>Nat.beq x0 a&&Az x1 y1&&Az b y2&&Az c y3
 |.mapEntry x0 x1 b,.mapEntry a y1 y2=>Nat.beq x0 a&&Az x1 y1&&Az b y2
 |.entryStore x0 x1 b c,.entryStore a y1 y2 y3=>Nat.beq x0 a&&Az x1 y1&&Az b y2&&Az c y3
 |.range x0 x1,.range a y1=>Nat.beq x0 a&&Az x1 y1
 |.next x0 x1,.next a y1=>Az x0 a&&eqD x1 y1
 |.entry x0,.entry a=>Az x0 a
 |.typeAssert x0 x1 b c,.typeAssert a y1 y2 y3=>Az x0 a&&Nat.beq x1 y1&&Nat.beq b y2&&eqD c y3
 |.extract x0 x1,.extract a y1=>Az x0 a&&Nat.beq x1 y1
 |.call x0,.call a=>Mx x0 a
 |.defer x0,.defer a=>Mx x0 a
 |.panic x0,.panic a=>Az x0 a
 |_,_=>false
set_option maxHeartbeats 4000000 in
theorem Wj:∀{a b:Op},eO a b=true→a=b:=by
 intro a b h;cases a<;>cases b<;>simp only [eO,Bool.false_eq_true,Bool.and_eq_true] at h
 case move.move=>have h0:=h;rw [Am h0]
 case assign.assign=>have h0:=h;rw [Am h0]
 case pick.pick=>obtain ⟨⟨h0,c⟩,d⟩:=h;rw [Am h0,Am c,Am d]
 case alloc.alloc=>have h0:=h;rw [AM h0]
 case box.box=>obtain ⟨h0,c⟩:=h;rw [AM h0,Am c]
 case build.build=>obtain ⟨h0,c⟩:=h;rw [AM h0,QD c]
 case buildSlice.buildSlice=>obtain ⟨⟨h0,c⟩,d⟩:=h;rw [AM h0,AM c,QD d]
 case insert.insert=>obtain ⟨⟨⟨h0,c⟩,d⟩,e⟩:=h;rw [AM h0,Am c,Am d,Am e]
 case load.load=>obtain ⟨h0,c⟩:=h;rw [AM h0,Am c]
 case store.store=>obtain ⟨⟨h0,c⟩,d⟩:=h;rw [AM h0,Am c,Am d]
 case ready.ready=>have h0:=h;rw [AM h0]
 case waits.waits=>have h0:=h;rw [AM h0]
 case nilCheck.nilCheck=>have h0:=h;rw [Am h0]
 case binOp.binOp=>obtain ⟨⟨⟨⟨h0,c⟩,d⟩,e⟩,f⟩:=h;rw [B6 h0,AM c,Am d,Am e,AM f]
 case unOp.unOp=>obtain ⟨⟨h0,c⟩,d⟩:=h;rw [B6 h0,AM c,Am d]
 case convert.convert=>obtain ⟨⟨h0,c⟩,d⟩:=h;rw [AM h0,AM c,Am d]
 case sliceToArrayPointer.sliceToArrayPointer=>obtain ⟨h0,c⟩:=h;rw [AM h0,Am c]
 case makeInterface.makeInterface=>obtain ⟨h0,c⟩:=h;rw [AM h0,Am c]
 case makeFunc.makeFunc=>obtain ⟨⟨h0,c⟩,d⟩:=h;rw [Ub h0,J6 c,J6 d]
 case makeMap.makeMap=>obtain ⟨h0,c⟩:=h;rw [AM h0,I7 c]
 case makeSlice.makeSlice=>obtain ⟨⟨h0,c⟩,d⟩:=h;rw [AM h0,Am c,Am d]
 case slice.slice=>obtain ⟨⟨⟨⟨h0,c⟩,d⟩,e⟩,f⟩:=h;rw [AM h0,Am c,I7 d,I7 e,I7 f]
 case fieldAddr.fieldAddr=>obtain ⟨⟨h0,c⟩,d⟩:=h;rw [AM h0,Am c,AM d]
 case field.field=>obtain ⟨⟨h0,c⟩,d⟩:=h;rw [AM h0,Am c,AM d]
 case indexAddr.indexAddr=>obtain ⟨⟨h0,c⟩,d⟩:=h;rw [AM h0,Am c,Am d]
 case index.index=>obtain ⟨⟨h0,c⟩,d⟩:=h;rw [AM h0,Am c,Am d]
 case lookup.lookup=>obtain ⟨⟨⟨h0,c⟩,d⟩,e⟩:=h;rw [AM h0,Am c,Am d,B6 e]
 case mapUpdate.mapUpdate=>obtain ⟨⟨⟨h0,c⟩,d⟩,e⟩:=h;rw [AM h0,Am c,Am d,Am e]
 case mapEntry.mapEntry=>obtain ⟨⟨h0,c⟩,d⟩:=h;rw [AM h0,Am c,Am d]
 case entryStore.entryStore=>obtain ⟨⟨⟨h0,c⟩,d⟩,e⟩:=h;rw [AM h0,Am c,Am d,Am e]
 case range.range=>obtain ⟨h0,c⟩:=h;rw [AM h0,Am c]
 case next.next=>obtain ⟨h0,c⟩:=h;rw [Am h0,B6 c]
 case entry.entry=>have h0:=h;rw [Am h0]
 case typeAssert.typeAssert=>obtain ⟨⟨⟨h0,c⟩,d⟩,e⟩:=h;rw [Am h0,AM c,AM d,B6 e]
 case extract.extract=>obtain ⟨h0,c⟩:=h;rw [Am h0,AM c]
 case call.call=>have h0:=h;rw [LD h0]
 case defer.defer=>have h0:=h;rw [LD h0]
 case panic.panic=>have h0:=h;rw [Am h0]
def Pr (a b:Edge):Bool:=Nat.beq a.on b.on&&eqD a.ground b.ground
theorem QZ {a b:Edge} (h:Pr a b=true):a=b:=by
 cases a;cases b;simp only [Pr,Bool.and_eq_true] at h;simp only [Edge.mk.injEq];exact ⟨AM h.1,B6 h.2⟩
def Ke (a b:Oper):Bool:=Oe Nat.beq a.dst b.dst&&eO a.op b.op&&Nat.beq a.type b.type&&IF Pr a.after b.after&&Oe (fun x y=>Nat.beq x.1 y.1&&eqD x.2 y.2) a.guard b.guard&&eqD a.pos b.pos
theorem HY {a b:Oper} (h:Ke a b=true):a=b:=by
 cases a;cases b;simp only [Ke,Bool.and_eq_true] at h;obtain ⟨⟨⟨⟨⟨c,d⟩,e⟩,f⟩,g⟩,i⟩:=h;simp only [Oper.mk.injEq];refine ⟨Hw (fun _ _=>AM) c,Wj d,AM e,B6 i,DN (fun _ _=>QZ) f,Hw (fun x y h=>?_) g⟩
 simp only [Bool.and_eq_true] at h;exact Prod.ext (AM h.1) (B6 h.2)
def BW:Code→Code→Bool
 |.skip,.skip=>true
 |.region i o d,.region g j k=>Nat.beq i g&&eqD d k&&IF Ke o j
 |.seq a b,.seq e h=>BW a e&&BW b h
 |.cond c a b,.cond l e h=>Az c l&&BW a e&&BW b h
 |.block i a,.block g e=>Nat.beq i g&&BW a e
 |.loop a,.loop e=>BW a e
 |.rangeFunc f p a b,.rangeFunc m n e h=>Az f m&&IF Nat.beq p n&&BW a e&&BW b h
 |.exit i,.exit g=>Nat.beq i g
 |.scope a,.scope e=>BW a e
 |.label i,.label g=>Nat.beq i g
 |.goto i,.goto g=>Nat.beq i g
 |.ret,.ret=>true
 |_,_=>false
theorem Dr:∀{a b:Code},BW a b=true→a=b:=by
 intro a
 induction a<;>intro b h<;>cases b<;>simp only [BW,Bool.false_eq_true,Bool.and_eq_true] at h<;>first|rfl|skip
 case region.region=>rw [AM h.1.1,B6 h.1.2,DN (fun _ _=>HY) h.2]
 case seq.seq c d _ _=>rw [c h.1,d h.2]
 case cond.cond c d _ _ _=>rw [Am h.1.1,c h.1.2,d h.2]
 case block.block ih _ _=>rw [AM h.1,ih h.2]
 case loop.loop ih _=>rw [ih h]
 case rangeFunc.rangeFunc c d _ _ _ _=>rw [Am h.1.1.1,DN (fun _ _=>AM) h.1.1.2,c h.1.2,d h.2]
 case exit.exit=>rw [AM h]
 case scope.scope ih _=>rw [ih h]
 case label.label=>rw [AM h]
 case goto.goto=>rw [AM h]
end Go.AE
namespace Go.AE
variable [Gl:Ax]
def SE.inst (t:List SE):SE→SE
 |.c n=>.c n
 |.var i=>t.getD i (.var i)
 |.lenS a=>.lenS (a.inst t)
 |.lenL a=>.lenL (a.inst t)
 |.arith C k a b=>.arith C k (a.inst t) (b.inst t)
 |.conv k a=>.conv k (a.inst t)
 |.lss a b=>.lss (a.inst t) (b.inst t)
 |.eql a b=>.eql (a.inst t) (b.inst t)
 |.eqS a l b=>.eqS (a.inst t) l b
 |.eqSS a b=>.eqSS (a.inst t) (b.inst t)
 |.isNil a=>.isNil (a.inst t)
 |.bc b=>.bc b
 |.neg a=>.neg (a.inst t)
 |.and a b=>.and (a.inst t) (b.inst t)
 |.nilIs a b=>.nilIs (a.inst t) (b.inst t)
 |.strc l b=>.strc l b
 |.strAt a i=>.strAt (a.inst t) (i.inst t)
 |.strCat a b=>.strCat (a.inst t) (b.inst t)
 |.strSub a lo hi=>.strSub (a.inst t) (lo.inst t) (hi.inst t)
 |.cell a i j=>.cell (a.inst t) (i.inst t) j
 |.sel a j=>.sel (a.inst t) j
 |.nilL=>.nilL
 |.emptyL=>.emptyL
 |.snoc a r=>.snoc (a.inst t) (r.inst t)
 |.upd a i j x=>.upd (a.inst t) (i.inst t) j (x.inst t)
 |.rep n r=>.rep (n.inst t) (r.inst t)
 |.cat a b=>.cat (a.inst t) (b.inst t)
 |.sub a lo hi=>.sub (a.inst t) (lo.inst t) (hi.inst t)
 |.rnil=>.rnil
 |.rcons x r=>.rcons (x.inst t) (r.inst t)
 |.app f x=>.app f (x.inst t)
 |.bytes a=>.bytes (a.inst t)
 |.ofBytes a=>.ofBytes (a.inst t)
 |.mIdx ks a k=>.mIdx ks (a.inst t) (k.inst t)
 |.rmv a i=>.rmv (a.inst t) (i.inst t)
def Val.inst (V:Val) (j:List SE):Val:={d:=fun i=>Af V (j.getD i (.var i)),fn:=V.fn}
theorem BK (V:Val) (a:List SE):∀e:SE,Af V (e.inst a)=Af (V.inst a) e:=by
 intro e
 induction e<;>simp_all only [SE.inst,Af,Val.inst]<;>rfl
theorem Lz (V:Val) (a:List SE) (e:SE):Ag V (e.inst a)=Ag (V.inst a) e:=by unfold Ag;rw [BK]
theorem Ep (V:Val) (a:List SE) (e:SE):Ai V (e.inst a)=Ai (V.inst a) e:=by unfold Ai;rw [BK]
abbrev Obs:=List (SE×SE)
def I1 (a b:SE):Option Obs:=match a.same b with
 |true=>some []
 |false=>match a.norm.same b.norm with
  |true=>some []
  |false=>some [(a,b)]
def CC (a b:SE):Option Obs:=match a.same b with
 |true=>some []
 |false=>match a.norm.same b.norm with
  |true=>some []
  |false=>some [(.and a (.bc true),.and b (.bc true))]
def Gc (a b:SE):Option Obs:=match a.same b with
 |true=>some []
 |false=>match a.norm.same b.norm with
  |true=>some []
  |false=>some [(.eql a b,.bc true)]
def Obs.holds (V:Val) (o:Obs):Prop:=∀a b,(a,b)∈o→Af V a=Af V b
def De (a b:Option Obs):Option Obs:=match a,b with
 |some x,some y=>some (x++y)
 |_,_=>none
def Dc (c:Bool) (o:Option Obs):Option Obs:=match c with
 |true=>o
 |false=>none
def toB (a:List Nat) (b c:Nat):Bool:=match a[b]? with
 |some d=>Nat.beq d c
 |none=>false
def V8 (a:List Nat):Fn→Fn→Bool
 |.func f,.func g=>Nat.beq f g
 |.yield l,.yield m=>toB a l m
 |_,_=>false
mutual
def Ck (d:List SE) (h:List Nat):AV→AV→Option Obs
 |.top,_=>some []
 |.bool a,.bool b=>Dc (a==b) (some [])
 |.int k a,.int u b=>Dc (decide (k=u)&&a==b) (some [])
 |.str l a,.str w b=>Dc (Nat.beq l w&&Nat.beq a b) (some [])
 |.ptr0,.ptr0=>some []
 |.ptr b o,.ptr j y=>Dc (toB h b j&&Nat.beq o y) (some [])
 |.slice0,.slice0=>some []
 |.slice b o n r,.slice j y z q=>Dc (toB h b j&&Nat.beq o y&&Nat.beq n z&&Nat.beq r q) (some [])
 |.map0,.map0=>some []
 |.map b,.map j=>Dc (toB h b j) (some [])
 |.func fn f c,.func A C D=>Dc (V8 h fn A) (De (EY d h f C) (EY d h c D))
 |.nilFunc,.nilFunc=>some []
 |.iface t v,.iface E F=>Dc (Nat.beq t E) (Ck d h v F)
 |.nilIface,.nilIface=>some []
 |.agg l,.agg w=>EY d h l w
 |.tuple l,.tuple w=>EY d h l w
 |.sb p e,.sb G s=>match p==G with
  |true=>CC (e.inst d) s
  |false=>CC (e.inst d) (.neg s)
 |.sb p e,.bool b=>CC (e.inst d) (.bc (b==p))
 |.si k e,.si u s=>Dc (decide (k=u)) (Gc (e.inst d) s)
 |.si k e,.int u n=>Dc (decide (k=u)) (Gc (e.inst d) (.c n))
 |.ss x,.ss B=>I1 (x.inst d) B
 |.ss x,.str l b=>I1 (x.inst d) (.strc l b)
 |.dat e x,.dat s B=>Dc (Nat.beq e s) (I1 (x.inst d) B)
 |.dat e x,.slice0=>I1 (x.inst d) .nilL
 |.asl b r n g,.asl j q z i=>Dc (toB h b j&&Nat.beq r q) (De (Gc (n.inst d) z) (CC (g.inst d) i))
 |.asl b r n g,.slice j y z q=>Dc (toB h b j&&Nat.beq y 0&&Nat.beq r q) (De (Gc (n.inst d) (.c z)) (CC (g.inst d) (.bc false)))
 |.asl b r n g,.slice0=>De (Gc (n.inst d) (.c 0)) (CC (g.inst d) (.bc true))
 |.asl b r n g,.eslc i=>De (Gc (n.inst d) (.c 0)) (CC (g.inst d) i)
 |.eslc g,.eslc i=>CC (g.inst d) i
 |.eslc g,.slice0=>CC (g.inst d) (.bc true)
 |.nmap b g,.nmap j i=>Dc (toB h b j) (CC (g.inst d) i)
 |.nmap b g,.map j=>Dc (toB h b j) (CC (g.inst d) (.bc false))
 |.nmap _ g,.map0=>CC (g.inst d) (.bc true)
 |_,_=>none
termination_by structural a=>a
def EY (d:List SE) (h:List Nat):List AV→List AV→Option Obs
 |[],[]=>some []
 |a::l,b::m=>De (Ck d h a b) (EY d h l m)
 |_,_=>none
termination_by structural l=>l
end
@[reducible] def Aw:Unk:={facts:=[],V:=⟨fun _=>default,fun _ d=>d⟩,K:=fun _=>none,R:=[],hR:=fun _ _ _ _ _ h=>(by cases h),ok:=by simp}
theorem Obs.append {V:Val} {a b:Obs} (h:Obs.holds V (a++b)):Obs.holds V a∧Obs.holds V b:=
 ⟨fun x y i=>h x y (by simp [i]),fun x y i=>h x y (by simp [i])⟩
theorem FI {V:Val} {a b:SE} {o:Obs} (h:I1 a b=some o) (d:o.holds V):Af V a=Af V b:=by
 unfold I1 at h;split at h
 ·rename_i c;rw [SE.same_ok (U:=Aw) c]
 ·split at h
  ·rename_i c;have:=congrArg (Af V) (SE.same_ok (U:=Aw) c)
   rwa [B2,B2] at this
  ·cases h;exact d a b (by simp)
theorem NF {V:Val} {a b:SE} {o:Obs} (h:Gc a b=some o) (d:o.holds V):Ag V a=Ag V b:=by
 unfold Gc at h;split at h
 ·rename_i c;rw [SE.same_ok (U:=Aw) c]
 ·split at h
  ·rename_i c;have:=congrArg (Af V) (SE.same_ok (U:=Aw) c);rw [B2,B2] at this;unfold Ag;rw [this]
  ·cases h;have:=d (.eql a b) (.bc true) (by simp)
   simp only [Af,D.bool.injEq] at this;exact eq_of_beq this
theorem Hm {V:Val} {a b:SE} {o:Obs} (h:CC a b=some o) (d:o.holds V):Ai V a=Ai V b:=by
 unfold CC at h;split at h
 ·rename_i c;rw [SE.same_ok (U:=Aw) c]
 ·split at h
  ·rename_i c;have:=congrArg (Af V) (SE.same_ok (U:=Aw) c);rw [B2,B2] at this;unfold Ai;rw [this]
  ·cases h;have:=d (.and a (.bc true)) (.and b (.bc true)) (by simp)
   simp only [Af,D.bool.injEq,D.toBool,Bool.and_true] at this;exact this
theorem Bv {a b:Option Obs} {o:Obs} (h:De a b=some o):∃x y,a=some x∧b=some y∧o=x++y:=by
 unfold De at h;split at h
 ·cases h;exact ⟨_,_,rfl,rfl,rfl⟩
 ·cases h
theorem AR {c:Bool} {a:Option Obs} {o:Obs} (h:Dc c a=some o):c=true∧a=some o:=by
 cases c with
 |true=>exact ⟨rfl,h⟩
 |false=>cases h
def Ren.back (ρ:Ren) (i:List Nat):Ren:=⟨fun b=>(i[b]?).bind ρ.m,ρ.imm⟩
theorem Ed {a:List Nat} {b c:Nat} (h:toB a b c=true) (ρ:Ren):(ρ.back a).m b=ρ c:=by
 unfold toB at h;split at h
 ·rename_i d e;rw [As h] at e;simp [Ren.back,e]
 ·cases h
section
variable {U W:Unk} {θ:List SE} (hV:W.V=U.V.inst θ) (hK:W.K=U.K) {β:List Nat} {ρ:Ren}
include hV hK
theorem P7 {f g:Fn} {b:Fn} (h:V8 β f g=true) (c:FnR ρ g b):FnR (ρ.back β) f b:=by
 cases f<;>cases g<;>simp only [V8,Bool.false_eq_true] at h
 ·rw [As h];exact c
 ·obtain ⟨a,d,e⟩:=c;exact ⟨a,by rw [Ed h];exact d,e⟩
mutual
theorem FV:∀(a b:AV) (o:Obs) (v:Value),Ck θ β a b=some o→o.holds U.V→@VR U.toVals ρ b v→@VR W.toVals (ρ.back β) a v
 |.top,_,_,v,_,_,_=>@VR.top W.toVals _ v
 |.bool a,b,o,v,h,g,d=>by
  cases b<;>simp only [Ck,reduceCtorEq] at h
  obtain ⟨j,_⟩:=AR h;cases d;have:=eq_of_beq j;subst this;exact @VR.bool W.toVals _ _
 |.int k a,b,o,v,h,g,d=>by
  cases b<;>simp only [Ck,reduceCtorEq] at h
  obtain ⟨j,_⟩:=AR h;cases d;simp only [Bool.and_eq_true,decide_eq_true_eq,beq_iff_eq] at j;obtain ⟨rfl,rfl⟩:=j;exact @VR.int W.toVals _ _ _
 |.str l a,b,o,v,h,g,d=>by
  cases b<;>simp only [Ck,reduceCtorEq] at h
  obtain ⟨j,_⟩:=AR h;obtain ⟨u,B⟩:=Ao j;rw [As u,As B];cases d;exact @VR.str W.toVals _ _
 |.ptr0,b,o,v,h,g,d=>by
  cases b<;>simp only [Ck,reduceCtorEq] at h
  cases d;exact @VR.ptr0 W.toVals _
 |.ptr b off,x,o,v,h,g,d=>by
  cases x<;>simp only [Ck,reduceCtorEq] at h
  obtain ⟨j,_⟩:=AR h;obtain ⟨u,B⟩:=Ao j;cases d with
  |ptr _ _ i G=>
   rw [As B];exact @VR.ptr W.toVals _ _ _ i (by rw [Ed u];exact G)
 |.slice0,b,o,v,h,g,d=>by
  cases b<;>simp only [Ck,reduceCtorEq] at h
  cases d;exact @VR.slice0 W.toVals _
 |.slice b off n L,x,o,v,h,g,d=>by
  cases x<;>simp only [Ck,reduceCtorEq] at h
  obtain ⟨j,_⟩:=AR h;obtain ⟨u,B⟩:=Ao j;obtain ⟨H,h5⟩:=Ao u;obtain ⟨M,N⟩:=Ao H;rw [As B,As h5,As N];cases d with
  |slice _ _ _ _ I i G O P=>exact @VR.slice W.toVals _ _ _ _ _ I i (by rw [Ed M];exact G) O P
  |sliceEnd _ _ _ a=>exact @VR.sliceEnd W.toVals _ _ _ _ a
 |.map0,b,o,v,h,g,d=>by
  cases b<;>simp only [Ck,reduceCtorEq] at h
  cases d;exact @VR.map0 W.toVals _
 |.map b,x,o,v,h,g,d=>by
  cases x<;>simp only [Ck,reduceCtorEq] at h
  obtain ⟨j,_⟩:=AR h;cases d with
  |map _ i G=>exact @VR.map W.toVals _ _ i (by rw [Ed j];exact G)
 |.func fn f c,x,o,v,h,g,d=>by
  cases x<;>simp only [Ck,reduceCtorEq] at h
  obtain ⟨j,u⟩:=AR h;obtain ⟨o1,o2,B,H,rfl⟩:=Bv u;obtain ⟨w,y⟩:=Obs.append g;cases d with
  |func _ aa _ _ f' c' Q R r3 r4 r5=>
   have Y:=C3 f _ o1 f' B w ⟨R,r3⟩;have Z:=C3 c _ o2 c' H y ⟨r4,r5⟩;exact @VR.func W.toVals _ fn aa f c f' c' (P7 hV hK j Q) Y.1 Y.2 Z.1 Z.2
 |.nilFunc,b,o,v,h,g,d=>by
  cases b<;>simp only [Ck,reduceCtorEq] at h
  cases d;exact @VR.nilFunc W.toVals _
 |.iface t a,x,o,v,h,g,d=>by
  cases x<;>simp only [Ck,reduceCtorEq] at h
  obtain ⟨j,u⟩:=AR h;rw [As j];cases d with
  |iface _ _ v' ab=>exact @VR.iface W.toVals _ _ a v' (FV a _ o v' u g ab)
 |.nilIface,b,o,v,h,g,d=>by
  cases b<;>simp only [Ck,reduceCtorEq] at h
  cases d;exact @VR.nilIface W.toVals _
 |.agg l,x,o,v,h,g,d=>by
  cases x<;>simp only [Ck,reduceCtorEq] at h
  cases d with
  |agg _ S Q R=>
   have q:=C3 l _ o S h g ⟨Q,R⟩;exact @VR.agg W.toVals _ l S q.1 q.2
 |.tuple l,x,o,v,h,g,d=>by
  cases x<;>simp only [Ck,reduceCtorEq] at h
  cases d with
  |tuple _ S Q R=>
   have q:=C3 l _ o S h g ⟨Q,R⟩;exact @VR.tuple W.toVals _ l S q.1 q.2
 |.sb p e,x,o,v,h,g,d=>by
  have key:∀{z:SE},CC (e.inst θ) z=some o→Ai W.V e=Ai U.V z:=by
   intro z C;rw [hV,←Ep];exact Hm C g
  cases x<;>simp only [Ck,reduceCtorEq] at h
  ·have:=key h;cases d;rename_i b;have q:=@VR.sb W.toVals (ρ.back β) p e;rw [this] at q;have D:((Ai U.V (.bc (b==p)))==p)=b:=by show ((b==p)==p)=b;cases b<;>cases p<;>rfl
   rw [D] at q;exact q
  ·split at h
   ·rename_i j;have:=key h;cases d;have T:=eq_of_beq j;subst T;rw [←this];exact @VR.sb W.toVals _ p e
   ·rename_i p' z _ j;have:=key h;cases d;have q:=@VR.sb W.toVals (ρ.back β) p e;rw [this] at q
    have D:(Ai U.V (.neg z)==p)=(Ai U.V z==p'):=by
     show ((!(Ai U.V z))==p)=_;cases p<;>cases p'<;>cases Ai U.V z<;>first|rfl | (simp at j)
    rw [D] at q;exact q
 |.si k e,x,o,v,h,g,d=>by
  have key:∀{z:SE},Gc (e.inst θ) z=some o→Ag W.V e=Ag U.V z:=by
   intro z C;rw [hV,←Lz];exact NF C g
  cases x<;>simp only [Ck,reduceCtorEq] at h
  ·obtain ⟨j,u⟩:=AR h;have:=key u;cases d;have T:=of_decide_eq_true j;subst T;have q:=@VR.si W.toVals (ρ.back β) k e;rw [this,Bp] at q;exact q
  ·obtain ⟨j,u⟩:=AR h;have:=key u;cases d;have T:=of_decide_eq_true j;subst T;rw [←this];exact @VR.si W.toVals _ k e
 |.ss e,x,o,v,h,g,d=>by
  have key:∀{z:SE},I1 (e.inst θ) z=some o→AK W.V e=AK U.V z:=by
   intro z C;unfold AK;rw [hV,←BK,FI C g]
  cases x<;>simp only [Ck,reduceCtorEq] at h
  ·have:=key h;cases d;rename_i s;have q:=@VR.ss W.toVals (ρ.back β) e;rw [this] at q
   have D:AK U.V (.strc s.data.toList.length (Au s.data.toList))=s:=by
    show (⟨(CY _ _).toArray⟩:ByteArray)=s;rw [Dj (U:=U)]
   rw [D] at q;exact q
  ·have:=key h;cases d;rw [←this];exact @VR.ss W.toVals _ e
 |.dat t e,x,o,v,h,g,d=>by
  have key:∀{z:SE},I1 (e.inst θ) z=some o→Af W.V e=Af U.V z:=by
   intro z C;rw [hV,←BK,FI C g]
  cases x<;>simp only [Ck,reduceCtorEq] at h
  ·have:=key h;cases d;exact @VR.dat W.toVals _ t e _ _ _ (by rw [this];exact .nil t _ rfl rfl)
  ·obtain ⟨j,u⟩:=AR h;have:=key u;rw [As j];cases d with
   |dat _ _ a n c hd=>exact @VR.dat W.toVals _ _ e a n c (by rw [this,hK];exact hd)
 |.dptr _ _ _ _,x,o,v,h,g,d=>by cases x<;>simp only [Ck,reduceCtorEq] at h
 |.asl b L n A,x,o,v,h,g,d=>by
  have E:∀{a b:SE} {o:Obs},Gc (a.inst θ) b=some o→o.holds U.V→Ag W.V a=Ag U.V b:=by
   intro a b o C g;rw [hV,←Lz];exact NF C g
  have F:∀{a b:SE} {o:Obs},CC (a.inst θ) b=some o→o.holds U.V→Ai W.V a=Ai U.V b:=by
   intro a b o C g;rw [hV,←Ep];exact Hm C g
  cases x<;>simp only [Ck,reduceCtorEq] at h
  ·
   obtain ⟨o1,o2,B,H,rfl⟩:=Bv h;obtain ⟨w,y⟩:=Obs.append g;have k1:=E B w;have k2:=F H y;cases d;exact @VR.aslEnd W.toVals _ b L n A none (by rw [k1];rfl) (by rw [k2];rfl)
  ·
   rename_i b' o' n' ac;obtain ⟨j,u⟩:=AR h;obtain ⟨h5,M⟩:=Ao j;obtain ⟨N,h8⟩:=Ao h5;obtain ⟨o1,o2,B,H,rfl⟩:=Bv u;obtain ⟨w,y⟩:=Obs.append g;have k1:=E B w;have k2:=F H y;have D:Ag W.V n=n':=by rw [k1];rfl
   have X:Ai W.V A=false:=by rw [k2];rfl
   have e3:=As h8;have e4:=As M;subst e3;subst e4;cases d with
   |slice _ _ _ _ I i G O P=>
    have q:=@VR.asl W.toVals (ρ.back β) b L n A I i (by rw [Ed N];exact G) (by rw [D];exact Int.natCast_nonneg _) (by rw [D];simpa using O) (by simpa using P) X
    rw [D] at q;simpa using q
   |sliceEnd _ _ _ a=>exact @VR.aslEnd W.toVals _ b L n A (some a) (by rw [D];rfl) (by rw [X];rfl)
  ·
   rename_i b' ac n' ad;obtain ⟨j,u⟩:=AR h;obtain ⟨N,M⟩:=Ao j;obtain ⟨o1,o2,B,H,rfl⟩:=Bv u;obtain ⟨w,y⟩:=Obs.append g;have k1:=E B w;have k2:=F H y;have D:Ag W.V n=Ag U.V n':=k1;have X:Ai W.V A=Ai U.V ad:=k2;have e4:=As M;subst e4;cases d with
   |asl _ _ _ _ I i G h0 O P J=>
    rw [←D];exact @VR.asl W.toVals _ b L n A I i (by rw [Ed N];exact G) (by rw [D];exact h0) (by rw [D];exact O) P (by rw [X];exact J)
   |aslEnd _ _ _ _ a h0 J=>exact @VR.aslEnd W.toVals _ b L n A a (by rw [D];exact h0) (by rw [X];exact J)
  ·
   obtain ⟨o1,o2,B,H,rfl⟩:=Bv h;obtain ⟨w,y⟩:=Obs.append g;have k1:=E B w;have k2:=F H y;cases d with
   |eslc _ a J=>exact @VR.aslEnd W.toVals _ b L n A a (by rw [k1];rfl) (by rw [J];exact k2.symm)
 |.eslc A,x,o,v,h,g,d=>by
  have key:∀{b:SE},CC (A.inst θ) b=some o→Ai W.V A=Ai U.V b:=by
   intro b C;rw [hV,←Ep];exact Hm C g
  cases x<;>simp only [Ck,reduceCtorEq] at h
  ·have:=key h;cases d;exact @VR.eslc W.toVals _ A none (by rw [this];rfl)
  ·have:=key h;cases d with
   |eslc _ a J=>exact @VR.eslc W.toVals _ A a (by rw [J,this])
 |.aptr _ _ _ _,x,o,v,h,g,d=>by cases x<;>simp only [Ck,reduceCtorEq] at h
 |.nmap b A,x,o,v,h,g,d=>by
  have key:∀{b:SE},CC (A.inst θ) b=some o→Ai W.V A=Ai U.V b:=by
   intro b C;rw [hV,←Ep];exact Hm C g
  cases x<;>simp only [Ck,reduceCtorEq] at h
  ·have:=key h;cases d;exact @VR.nmap0 W.toVals _ b A (by rw [this];rfl)
  ·obtain ⟨j,u⟩:=AR h;have:=key u;cases d with
   |map _ i G=>exact @VR.nmap W.toVals _ b A i (by rw [Ed j];exact G) (by rw [this];rfl)
  ·obtain ⟨j,u⟩:=AR h;have:=key u;cases d with
   |nmap _ _ i G J=>exact @VR.nmap W.toVals _ b A i (by rw [Ed j];exact G) (by rw [this];exact J)
   |nmap0 _ _ J=>exact @VR.nmap0 W.toVals _ b A (by rw [this];exact J)
theorem C3:∀(a b:List AV) (o:Obs) (vs:List Value),EY θ β a b=some o→o.holds U.V→@VL U.toVals ρ b vs→@VL W.toVals (ρ.back β) a vs
 |[],b,o,vs,h,g,d=>by
  cases b with
  |nil=>have:=VL.nil_inv (U:=U.toVals) d;subst this;exact VL.nil (U:=W.toVals) _
  |cons=>cases h
 |a::l,b,o,vs,h,g,d=>by
  cases b with
  |nil=>cases h
  |cons b m=>
   simp only [EY] at h;obtain ⟨o1,o2,j,u,rfl⟩:=Bv h;obtain ⟨w,y⟩:=Obs.append g;obtain ⟨v,r,rfl,Y,Z⟩:=VL.cons_inv (U:=U.toVals) d;exact VL.cons (U:=W.toVals) (FV a b o1 v j w Y) (C3 l m o2 r u y Z)
end
end
end Go.AE
namespace Go.AE
variable [Gl:Ax]
def wJ (c:List SE) (d:List Nat):Option AV→Option AV→Option Obs
 |none,_=>some []
 |some a,some b=>Ck c d a b
 |some _,none=>none
def leT (a:List SE) (b:List Nat):T AV→T AV→Option Obs
 |.nil,_=>some []
 |.node v l r,.node c d e=>De (wJ a b v c) (De (leT a b l d) (leT a b r e))
 |.node _ _ _,.nil=>none
def Wg (c:List SE) (d:List Nat):List Al→List Al→Option Obs
 |[],[]=>some []
 |a::l,b::m=>Dc (Nat.beq a.born b.born) (De (Ck c d a.key b.key) (De (Ck c d a.val b.val) (Wg c d l m)))
 |_,_=>none
def i4:LoopState→LoopState→Bool
 |.ready,.ready=>true
 |.busy,.busy=>true
 |.done,.done=>true
 |.exhausted,.exhausted=>true
 |_,_=>false
theorem V3 {a b:LoopState} (h:i4 a b=true):a=b:=by cases a<;>cases b<;>first|rfl | (cases h;done)
def Nq [Facts] (E:Env) (g:List SE) (m:List Nat):Ab→Ab→Option Obs
 |.cells n c,.cells B C=>Dc (Nat.beq n B) (leT g m c C)
 |.arr e x,.arr D q=>Dc (Nat.beq e D) (I1 (x.inst g) q)
 |.arr e x,.cells n c=>match E.kinds e with
  |some o=>match Nat.beq (n/o.length*o.length) n,c.range 0 n with
   |true,some l=>match C9 o (n/o.length) .emptyL l with
    |some y=>I1 (x.inst g) y
    |none=>none
   |_,_=>none
  |none=>none
 |.map p k,.map r s=>Dc (Nat.beq k s) (Wg g m p r)
 |.dmap k v x,.dmap s F q=>Dc (Nat.beq k s&&Nat.beq v F) (I1 (x.inst g) q)
 |.dmap k v x,.map p h=>match E.kinds k,E.kinds v with
  |some t,some u=>match KG t u .emptyL p with
   |some y=>Dc (MH 0 p h) (I1 (x.inst g) y)
   |none=>none
  |_,_=>none
 |.deferred none,.deferred none=>some []
 |.deferred (some []),.deferred (some [])=>some []
 |.loop st pending fn nt tmps params assign body d,.loop w a z A i b f j G=>
  Dc (i4 st w&&Oe BW pending a&&Nat.beq fn z&&Nat.beq nt A&&ET Nat.beq params b&&toB m d G) (Dc (BW assign f&&BW body j) (leT g m tmps i))
 |_,_=>none
def ce [Facts] (E:Env) (a:List SE) (b:List Nat):Option Ab→Option Ab→Option Obs
 |none,_=>some []
 |some x,some y=>Nq E a b x y
 |some _,none=>none
def DJ [Facts] (E:Env) (a:List SE) (c:List Nat) (h:Aa):List (Option Ab)→List Nat→Option Obs
 |[],[]=>some []
 |o::r,b::d=>De (ce E a c o (h.blk.get b)) (DJ E a c h r d)
 |_,_=>none
def Ee:List Nat→Bool
 |[]=>true
 |b::r=>!Gt b r&&Ee r
def BS:List (Option Ab)→Nat→T Ab→T Ab
 |[],_,t=>t
 |some x::r,i,t=>BS r (i+1) (t.set i x)
 |none::r,i,t=>BS r (i+1) t
def AZ (l:List (Option Ab)):T Ab:=BS l 0 .nil
theorem J4:∀(l:List (Option Ab)) (i:Nat) (t:T Ab) (j:Nat),(∀q,i≤q→t.get q=none)→(BS l i t).get j=if i≤j then (l[j-i]?).join else t.get j:=by
 intro l
 induction l with
 |nil=>
  intro i t j b;simp only [BS];by_cases h:i≤j
  ·rw [if_pos h,b j h];rfl
  ·rw [if_neg h]
 |cons o r ih=>
  intro i t j b
  have key:∀a,(∀q,i+1≤q→a.get q=none)→a.get i=o→(∀q,q<i→a.get q=t.get q)→(BS r (i+1) a).get j=if i≤j then ((o::r)[j-i]?).join else t.get j:=by
   intro a e f g;rw [ih (i+1) a j e];by_cases d:i+1≤j
   ·rw [if_pos d,if_pos (by omega),show j-i=(j-(i+1))+1 by omega,List.getElem?_cons_succ]
   ·rw [if_neg d];by_cases k:i=j
    ·subst k;rw [if_pos (Nat.le_refl _),f];simp
    ·rw [if_neg (by omega),g j (by omega)]
  cases o with
  |some x=>
   simp only [BS];refine key _ (fun q c=>?_) ?_ (fun q c=>?_)
   ·rw [T.get_set,if_neg (by omega),b q (by omega)]
   ·rw [T.get_set,if_pos rfl]
   ·rw [T.get_set,if_neg (by omega)]
  |none=>
   simp only [BS];exact key _ (fun q c=>b q (by omega)) (b i (Nat.le_refl _)) (fun q c=>rfl)
theorem BX (l:List (Option Ab)) (j:Nat):(AZ l).get j=(l[j]?).join:=by
 rw [AZ,J4 _ _ _ _ (fun q _=>T.get_nil _),if_pos (Nat.zero_le _)];simp
theorem Fc {b:Nat}:∀{l:List Nat},b∈l→Gt b l=true
 |c::r,h=>by
  simp only [Gt,Bool.or_eq_true];rcases List.mem_cons.1 h with rfl|h
  ·exact .inl (Eo b)
  ·exact .inr (Fc h)
def Ea (b:Nat):List (Option Ab)→List Nat→Bool
 |some _::r,c::a=>Nat.beq b c||Ea b r a
 |none::r,_::a=>Ea b r a
 |_,_=>false
def EJ:List (Option Ab)→List Nat→Bool
 |some _::r,b::a=>!Ea b r a&&EJ r a
 |none::r,_::a=>EJ r a
 |_,_=>true
theorem FJ {b:Nat}:∀{l:List (Option Ab)} {e:List Nat},Ea b l e=false→∀{j:Nat} {x:Ab},l[j]?=some (some x)→e[j]?=some b→False
 |[],_,_,j,x,d,_=>by simp at d
 |_::_,[],_,j,x,_,a=>by simp at a
 |some y::r,c::e,h,j,x,d,a=>by
  simp only [Ea,Bool.or_eq_false_iff] at h;cases j with
  |zero=>simp only [List.getElem?_cons_zero,Option.some.injEq] at a;subst a;rw [Nat.beq_refl] at h;exact absurd h.1 (by simp)
  |succ j=>exact FJ h.2 (by simpa using d) (by simpa using a)
 |none::r,c::e,h,j,x,d,a=>by
  simp only [Ea] at h;cases j with
  |zero=>simp at d
  |succ j=>exact FJ h (by simpa using d) (by simpa using a)
theorem HZ:∀{l:List (Option Ab)} {f:List Nat},EJ l f=true→∀{i j b:Nat} {x y:Ab},l[i]?=some (some x)→l[j]?=some (some y)→f[i]?=some b→f[j]?=some b→i=j
 |[],_,_,i,j,b,x,y,d,_,_,_=>by simp at d
 |_::_,[],_,i,j,b,x,y,_,_,a,_=>by simp at a
 |none::r,c::f,h,i,j,b,x,y,d,g,a,e=>by
  simp only [EJ] at h;cases i with
  |zero=>simp at d
  |succ i=>
   cases j with
   |zero=>simp at g
   |succ j=>exact congrArg (· + 1) (HZ h (i:=i) (j:=j) (b:=b) (x:=x) (y:=y) (by simpa using d) (by simpa using g) (by simpa using a) (by simpa using e))
 |some z::r,c::f,h,i,j,b,x,y,d,g,a,e=>by
  simp only [EJ,Bool.and_eq_true,Bool.not_eq_true'] at h;cases i with
  |zero=>
   simp only [List.getElem?_cons_zero,Option.some.injEq] at a;subst a;cases j with
   |zero=>rfl
   |succ j=>exact (FJ h.1 (by simpa using g) (by simpa using e)).elim
  |succ i=>
   cases j with
   |zero=>
    simp only [List.getElem?_cons_zero,Option.some.injEq] at e;subst e;exact (FJ h.1 (by simpa using d) (by simpa using a)).elim
   |succ j=>exact congrArg (· + 1) (HZ h.2 (i:=i) (j:=j) (b:=b) (x:=x) (y:=y) (by simpa using d) (by simpa using g) (by simpa using a) (by simpa using e))
theorem Lr:∀{l:List Nat},Ee l=true→∀{i j b:Nat},l[i]?=some b→l[j]?=some b→i=j
 |[],_,i,j,b,h,_=>by simp at h
 |c::r,h,i,j,b,hi,a=>by
  simp only [Ee,Bool.and_eq_true,Bool.not_eq_true'] at h;cases i with
  |zero=>
   simp only [List.getElem?_cons_zero,Option.some.injEq] at hi;subst hi;cases j with
   |zero=>rfl
   |succ j=>
    simp only [List.getElem?_cons_succ] at a;rw [Fc (List.mem_of_getElem? a)] at h;cases h.1
  |succ i=>
   simp only [List.getElem?_cons_succ] at hi;cases j with
   |zero=>
    simp only [List.getElem?_cons_zero,Option.some.injEq] at a;subst a;rw [Fc (List.mem_of_getElem? hi)] at h;cases h.1
   |succ j=>
    simp only [List.getElem?_cons_succ] at a;rw [Lr h.2 hi a]
section
variable {U W:Unk} {θ:List SE} (hV:W.V=U.V.inst θ) (hK:W.K=U.K) {β:List Nat} {ρ:Ren} {E:Env}
include hV hK
theorem VX {a b:Option AV} {o:Obs} (h:wJ θ β a b=some o) (c:o.holds U.V) {x:AV} (d:a=some x):∃y,b=some y∧∀v,@VR U.toVals ρ y v→@VR W.toVals (ρ.back β) x v:=by
 subst d;cases b with
 |none=>cases h
 |some y=>exact ⟨y,rfl,fun v e=>FV hV hK x y o v h c e⟩
theorem JX:∀(p a:T AV) (o:Obs),leT θ β p a=some o→o.holds U.V→∀i x,p.get i=some x→∃y,a.get i=some y∧∀v,@VR U.toVals ρ y v→@VR W.toVals (ρ.back β) x v
 |.nil,a,o,h,c,i,x,b=>by simp [T.get_nil] at b
 |.node v l r,.nil,o,h,c,i,x,b=>by cases h
 |.node v l r,.node t j k,o,h,c,i,x,b=>by
  simp only [leT] at h;obtain ⟨o1,o2,m,n,rfl⟩:=Bv h;obtain ⟨o3,o4,q,s,rfl⟩:=Bv n;obtain ⟨d,e⟩:=Obs.append c;obtain ⟨f,g⟩:=Obs.append e;simp only [T.get_eq,T.get0] at b ⊢;split at b
  ·exact VX hV hK m d b
  ·split at b
   ·simp only [←T.get_eq] at b ⊢;exact JX l j o3 q f _ x b
   ·simp only [←T.get_eq] at b ⊢;exact JX r k o4 s g _ x b
theorem P9:∀(p a:List Al) (o:Obs) (c:List MapEntry),Wg θ β p a=some o→o.holds U.V→@ER U.toVals ρ a c→@ER W.toVals (ρ.back β) p c
 |[],[],o,c,h,k,d=>by cases c<;>simp_all [ER]
 |a::l,b::m,o,c,h,k,d=>by
  simp only [Wg] at h;obtain ⟨n,h⟩:=AR h;obtain ⟨o1,o2,q,s,rfl⟩:=Bv h;obtain ⟨o3,o4,t,u,rfl⟩:=Bv s;obtain ⟨f,g⟩:=Obs.append k;obtain ⟨i,j⟩:=Obs.append g;cases c with
  |nil=>simp [ER] at d
  |cons e r=>
   obtain ⟨v,w,x,y⟩:=d;exact ⟨FV hV hK _ _ _ _ q f v,FV hV hK _ _ _ _ t i w,by rw [x,As n],P9 l m o4 r u j y⟩
 |[],_::_,o,c,h,_,_=>by cases h
 |_::_,[],o,c,h,_,_=>by cases h
theorem SN (hE:@OK _ U E) {x y:Ab} {o:Obs} {j:Bh} {ob:Option Obj} (h:@Nq U.toFacts E θ β x y=some o) (A:o.holds U.V) (t:@BR U.toVals ρ y j ob):@BR W.toVals (ρ.back β) x j ob:=by
 unfold Nq at h;split at h
 ·
  rename_i n c n' c';obtain ⟨d,u⟩:=AR h;rw [As d];obtain ⟨f,e,H,s,m,B,C,D⟩:=t;refine ⟨f,e,H,s,m,B,C,fun i a hi M=>?_⟩
  obtain ⟨y,I,G⟩:=JX hV hK (ρ:=ρ) c c' o u A i a M;obtain ⟨v,O,P⟩:=D i y hi I;exact ⟨v,O,G v P⟩
 ·
  rename_i e x e' Q;obtain ⟨d,u⟩:=AR h;rw [As d];obtain ⟨J,f,R,H,s,m,B,C,D⟩:=t;have w:Af W.V x=Af U.V Q:=by rw [hV,←BK,FI u A]
  exact ⟨J,f,R,H,by rw [hK];exact s,m,B,C,by rw [w,hK];exact D⟩
 ·
  rename_i e x n c;split at h
  ·rename_i J S;split at h
   ·rename_i l hn hl;split at h
    ·rename_i y X;obtain ⟨f,R,H,s,m,B,C,D⟩:=t;have F:U.K e=some J:=by rw [OK.kd (U:=U) hE,←OK.ke (U:=U) hE];exact S
     have w:Af W.V x=Af U.V y:=by rw [hV,←BK,FI h A]
     obtain ⟨l1,l2⟩:=T.range_spec c _ _ _ hl
     have Y:@VL U.toVals ρ l ((f.toList.drop j.co).take n):=by
      refine ⟨by simp [l1];omega,fun i a v M N=>?_⟩
      have hi:i<n:=by have:=(List.getElem?_eq_some_iff.1 M).1;omega
      have:=l2 i hi;rw [Nat.zero_add,M] at this;obtain ⟨v',O,P⟩:=D i a hi this;rw [List.getElem?_take,if_pos hi,List.getElem?_drop,Array.getElem?_toList,O] at N;cases N;exact P
     obtain ⟨rs,r1,Z,r3⟩:=@Ek _ U ρ J _ _ _ _ _ X Y;have er:(Af U.V y).rows=rs:=by rw [Z];rfl
     have z:((f.toList.drop j.co).take n).length=n:=by simp;omega
     refine ⟨J,f,R,H,by rw [hK];exact F,s,m,C,?_⟩
     rw [w,er,hK]
     exact r3.at (by rw [z,m];exact B) (fun q hq=>by
      rw [z] at hq;rw [List.getElem?_take,if_pos hq,List.getElem?_drop,Array.getElem?_toList])
    ·cases h
   ·cases h
  ·cases h
 ·
  obtain ⟨d,u⟩:=AR h;rw [As d];obtain ⟨g,s,m⟩:=t;exact ⟨g,s,P9 hV hK _ _ _ _ u A m⟩
 ·
  rename_i k v x k' v' Q;obtain ⟨d,u⟩:=AR h;obtain ⟨c1,c2⟩:=Ao d;rw [As c1,As c2];obtain ⟨p,r,g,b,s,m,B,C,D⟩:=t;have w:Af W.V x=Af U.V Q:=by rw [hV,←BK,FI u A]
  exact ⟨p,r,g,b,by rw [hK];exact s,by rw [hK];exact m,B,by rw [w,hK];exact C,D⟩
 ·
  rename_i k v x es b;split at h
  ·rename_i p r S N;split at h
   ·rename_i y X;obtain ⟨L,h⟩:=AR h;obtain ⟨g,s,m⟩:=t;have F:U.K k=some p:=by rw [OK.kd (U:=U) hE,←OK.ke (U:=U) hE];exact S
    have aa:U.K v=some r:=by rw [OK.kd (U:=U) hE,←OK.ke (U:=U) hE];exact N
    have w:Af W.V x=Af U.V y:=by rw [hV,←BK,FI h A]
    have q:AY U.K ρ.imm p r ([]++g) (Af U.V y).rows:=@Kw _ U ρ p r _ _ _ _ [] X m trivial;rw [List.nil_append] at q;exact ⟨p,r,g,b,by rw [hK];exact F,by rw [hK];exact aa,s,by rw [w,hK];exact q,(@Mp _ U.toVals ρ es g 0 b L m).2⟩
   ·cases h
  ·cases h
 ·exact t
 ·obtain ⟨l',I,G⟩:=t;cases l' with
  |nil=>exact ⟨[],trivial,G⟩
  |cons=>exact I.elim
 ·
  obtain ⟨d,u⟩:=AR h;obtain ⟨h3,h4⟩:=AR u;obtain ⟨d,c6⟩:=Ao d;obtain ⟨d,c5⟩:=Ao d;obtain ⟨d,c4⟩:=Ao d;obtain ⟨d,c3⟩:=Ao d;obtain ⟨c1,c2⟩:=Ao d;obtain ⟨c7,c8⟩:=Ao h3;have w:=V3 c1;have e2:=Hw (fun _ _=>Dr) c2
  have e3:=As c3;have e4:=As c4;have e5:=FQ (fun _ _=>AM) c5
  have e7:=Dr c7;have e8:=Dr c8;subst w;subst e2;subst e3;subst e4;subst e5;subst e7;subst e8;obtain ⟨tm,bd,I,G,q3⟩:=t;refine ⟨tm,bd,by rw [Ed c6];exact I,@TR.mk W.toVals (ρ.back β) _ _ _ (@TR.size U.toVals ρ _ _ _ G) (fun i x hx=>?_),q3⟩
  obtain ⟨y,r1,Z⟩:=JX hV hK (ρ:=ρ) _ _ o h4 A i x hx;exact Z _ (@TR.get U.toVals ρ _ _ _ G i y r1)
 ·cases h
theorem CG {h:Aa}:∀(l:List (Option Ab)) (d:List Nat) (o:Obs),@DJ U.toFacts E θ β h l d=some o→o.holds U.V→l.length=d.length∧∀(i:Nat) x,l[i]?=some (some x)→∃b y k,d[i]?=some b∧h.blk.get b=some y∧@Nq U.toFacts E θ β x y=some k∧k.holds U.V
 |[],[],o,h,m=>⟨rfl,fun i x c=>by simp at c⟩
 |a::l,b::d,o,h,m=>by
  simp only [DJ] at h;obtain ⟨o1,o2,e,n,rfl⟩:=Bv h;obtain ⟨f,g⟩:=Obs.append m;obtain ⟨p,q⟩:=CG l d o2 n g;refine ⟨by simp [p],fun i x c=>?_⟩
  cases i with
  |zero=>
   simp only [List.getElem?_cons_zero,Option.some.injEq] at c;subst c;cases j:(_:Aa).blk.get b with
   |none=>rw [j] at e;cases e
   |some y=>rw [j] at e;exact ⟨b,y,o1,rfl,j,e,f⟩
  |succ i=>
   simp only [List.getElem?_cons_succ] at c ⊢;exact q i x c
 |[],_::_,o,h,_=>by cases h
 |_::_,[],o,h,_=>by cases h
theorem HR.toPatL (hE:@OK _ U E) {h:Aa} {w:World} {l:List (Option Ab)} {o:Obs} (hr:@HR _ U.toVals ρ h.blk.get w) (hl:@DJ U.toFacts E θ β h l β=some o) (ho:o.holds U.V) (hn:EJ l β=true):@HR _ W.toVals (ρ.back β) (AZ l).get w:=by
 obtain ⟨q1,q2⟩:=CG hV hK l β o hl ho
 have at_:∀b base,(ρ.back β).m b=some base→∃c,β[b]?=some c∧ρ c=some base:=by
  intro b base i;simp only [Ren.back] at i;cases hc:β[b]? with
  |none=>rw [hc] at i;cases i
  |some c=>rw [hc] at i;exact ⟨c,rfl,i⟩
 have live:∀b,(AZ l).get b≠none→∃x c y o',(AZ l).get b=some x∧β[b]?=some c∧h.blk.get c=some y∧@Nq U.toFacts E θ β x y=some o'∧o'.holds U.V:=by
  intro b i;rw [BX] at i ⊢;cases r:l[b]? with
  |none=>rw [r] at i;exact absurd rfl i
  |some ox=>
   cases ox with
   |none=>rw [r] at i;exact absurd rfl i
   |some x=>
    obtain ⟨c,y,o',a1,a2,a3,a4⟩:=q2 b x r;exact ⟨x,c,y,o',rfl,a1,a2,a3,a4⟩
 refine ⟨fun b base i=>?_,fun b base x i r=>?_,fun b b' base base' an i ar h1 h2=>?_,fun k arr hk=>HR.imm (U:=U.toVals) (ρ:=ρ) hr k arr hk,fun k arr b base hk i hl=>?_,HR.glob (U:=U.toVals) (ρ:=ρ) hr⟩
 ·obtain ⟨c,t,C⟩:=at_ b base i;exact HR.lt (U:=U.toVals) hr c base C
 ·obtain ⟨x',c,y,o',e1,I,J,e4,e5⟩:=live b (by rw [r];exact Option.some_ne_none _)
  rw [r] at e1;cases e1;obtain ⟨c',t,C⟩:=at_ b base i;rw [I] at t;cases t;exact SN hV hK hE e4 e5 (HR.blk (U:=U.toVals) hr c base y C J)
 ·obtain ⟨c,t,C⟩:=at_ b base i;obtain ⟨c',ab,av⟩:=at_ b' base' ar;obtain ⟨_,d,y,_,_,I,J,_,_⟩:=live b h1;obtain ⟨_,d',y',_,_,al,a6,_,_⟩:=live b' h2;rw [t] at I;cases I;rw [ab] at al;cases al;refine HR.apart (U:=U.toVals) hr c c' base base' (fun e=>?_) C av (by rw [J];exact Option.some_ne_none _) (by rw [a6];exact Option.some_ne_none _)
  subst e
  have j:∀b,(AZ l).get b≠none→∃x,l[b]?=some (some x):=by
   intro b i;rw [BX] at i;cases r:l[b]? with
   |none=>rw [r] at i;exact absurd rfl i
   |some ox=>
    cases ox with
    |none=>rw [r] at i;exact absurd rfl i
    |some x=>exact ⟨x,rfl⟩
  obtain ⟨x1,l1⟩:=j b h1;obtain ⟨x2,l2⟩:=j b' h2;exact an (HZ hn l1 l2 t ab)
 ·obtain ⟨c,t,C⟩:=at_ b base i;obtain ⟨_,d,y,_,_,I,J,_,_⟩:=live b hl;rw [t] at I;cases I;exact HR.off (U:=U.toVals) hr k arr c base hk C (by rw [J];exact Option.some_ne_none _)
omit hV hK in
theorem Sn {l:List (Option Ab)} {bs:List Nat} (h:Ee bs=true):EJ l bs=true:=by
 induction l generalizing bs with
 |nil=>rfl
 |cons o r ih=>
  cases bs with
  |nil=>cases o<;>rfl
  |cons b bs=>
   simp only [Ee,Bool.and_eq_true,Bool.not_eq_true'] at h;cases o with
   |none=>exact ih h.2
   |some x=>
    simp only [EJ,Bool.and_eq_true,Bool.not_eq_true'];refine ⟨?_,ih h.2⟩;cases hq:Ea b r bs with
    |false=>rfl
    |true=>
     exfalso
     have:∀(r:List (Option Ab)) (bs:List Nat),Ea b r bs=true→Gt b bs=true:=by
      intro r
      induction r with
      |nil=>intro bs h;cases bs<;>cases h
      |cons o r ih2=>
       intro bs h;cases bs with
       |nil=>cases o<;>cases h
       |cons c bs=>
        cases o with
        |none=>simp only [Ea] at h;simp [Gt,ih2 bs h]
        |some x=>
         simp only [Ea,Bool.or_eq_true] at h;simp only [Gt,Bool.or_eq_true];exact h.imp id (ih2 bs)
     rw [this r bs hq] at h;exact absurd h.1 (by simp)
theorem HR.toPat (hE:@OK _ U E) {h:Aa} {w:World} {l:List (Option Ab)} {o:Obs} (hr:@HR _ U.toVals ρ h.blk.get w) (i:@DJ U.toFacts E θ β h l β=some o) (j:o.holds U.V) (t:Ee β=true):@HR _ W.toVals (ρ.back β) (AZ l).get w:=
 HR.toPatL hV hK hE hr i j (Sn t)
end
end Go.AE
namespace Go.AE
variable [Gl:Ax]
def PD (a:List Nat):Fn→Fn
 |.yield l=>.yield (a.getD l 0)
 |f=>f
mutual
def AV.inst [Facts] (j:List SE) (r:List Nat):AV→AV
 |.top=>.top
 |.bool b=>.bool b
 |.int k n=>.int k n
 |.str l b=>.str l b
 |.ptr0=>.ptr0
 |.ptr b o=>.ptr (r.getD b 0) o
 |.slice0=>.slice0
 |.slice b o n es=>.slice (r.getD b 0) o n es
 |.map0=>.map0
 |.map b=>.map (r.getD b 0)
 |.func fn f c=>.func (PD r fn) (AV.instL j r f) (AV.instL j r c)
 |.nilFunc=>.nilFunc
 |.iface t v=>.iface t (AV.inst j r v)
 |.nilIface=>.nilIface
 |.agg l=>.agg (AV.instL j r l)
 |.tuple l=>.tuple (AV.instL j r l)
 |.sb p e=>mkB p (e.inst j)
 |.si k e=>mkI k (e.inst j)
 |.ss x=>.ss (x.inst j)
 |.dat e x=>.dat e (x.inst j)
 |.dptr e x i off=>.dptr e (x.inst j) (i.inst j) off
 |.asl b es n C=>.asl (r.getD b 0) es (n.inst j) (C.inst j)
 |.eslc C=>.eslc (C.inst j)
 |.aptr b es i off=>.aptr (r.getD b 0) es (i.inst j) off
 |.nmap b C=>.nmap (r.getD b 0) (C.inst j)
 |.stamp b=>.stamp (r.getD b 0)
 |.glob g off=>.glob g off
termination_by structural a=>a
def AV.instL [Facts] (j:List SE) (r:List Nat):List AV→List AV
 |[]=>[]
 |a::l=>AV.inst j r a::AV.instL j r l
termination_by structural l=>l
end
def T.mapA {i j:Type} (f:i→j):T i→T j
 |.nil=>.nil
 |.node v l r=>.node (match v with|some x=>some (f x)|none=>none) (l.mapA f) (r.mapA f)
def PO [Facts] (a:List SE) (b:List Nat):List Al→List Al
 |[]=>[]
 |e::r=>{key:=e.key.inst a b,val:=e.val.inst a b,born:=e.born}::PO a b r
def Ab.inst [Facts] (i:List SE) (j:List Nat):Ab→Option Ab
 |.cells n c=>some (.cells n (c.mapA (AV.inst i j)))
 |.arr e x=>some (.arr e (x.inst i))
 |.map l k=>some (.map (PO i j l) k)
 |.dmap k v x=>some (.dmap k v (x.inst i))
 |.deferred none=>some (.deferred none)
 |.deferred (some [])=>some (.deferred (some []))
 |.loop st pending fn nt tmps params assign body d=>some (.loop st pending fn nt (tmps.mapA (AV.inst i j)) params assign body (j.getD d 0))
 |_=>none
theorem T.get_mapA {j C:Type} (f:j→C):∀(t:T j) (i:Nat),(t.mapA f).get i=(t.get i).map f
 |.nil,i=>by rw [T.mapA,T.get_nil,T.get_nil];rfl
 |.node v l r,i=>by
  simp only [T.mapA,T.get_eq,T.get0];split
  ·cases v<;>rfl
  ·split
   ·simp only [←T.get_eq];exact T.get_mapA f l _
   ·simp only [←T.get_eq];exact T.get_mapA f r _
section
variable {U W:Unk} {θ:List SE} (hV:W.V=U.V.inst θ) (hK:W.K=U.K) {β:List Nat} {σ τ:Ren}
 (hβ:∀b base,σ b=some base→τ (β.getD b 0)=some base) (hM:∀k a,σ.imm k=some a→τ.imm k=some a)
include hV hK hβ hM
omit hK in
theorem BY {e:SE}:Af U.V (e.inst θ)=Af W.V e:=by rw [BK,hV]
theorem RI {f g:Fn} (h:FnR σ f g):FnR τ (PD β f) g:=by
 cases f<;>simp only [FnR,PD] at h ⊢<;>first|exact h|skip
 obtain ⟨base,c,d⟩:=h;exact ⟨base,hβ _ _ c,d⟩
mutual
theorem EM:∀(a:AV) (v:Value),@VR W.toVals σ a v→@VR U.toVals τ (@AV.inst U.toFacts θ β a) v
 |.top,v,h=>@VR.top U.toVals _ v
 |.bool b,v,h=>by cases h;exact @VR.bool U.toVals _ _
 |.int k n,v,h=>by cases h;exact @VR.int U.toVals _ _ _
 |.str l b,v,h=>by cases h;exact @VR.str U.toVals _ _
 |.ptr0,v,h=>by cases h;exact @VR.ptr0 U.toVals _
 |.ptr b o,v,h=>by
  cases h with
  |ptr _ _ base j=>exact @VR.ptr U.toVals _ _ o base (hβ _ _ j)
 |.slice0,v,h=>by cases h;exact @VR.slice0 U.toVals _
 |.slice b o n w,v,h=>by
  cases h with
  |slice _ _ _ _ m base j F G=>exact @VR.slice U.toVals _ _ o n w m base (hβ _ _ j) F G
  |sliceEnd _ _ _ a=>exact @VR.sliceEnd U.toVals _ _ o w a
 |.map0,v,h=>by cases h;exact @VR.map0 U.toVals _
 |.map b,v,h=>by
  cases h with
  |map _ base j=>exact @VR.map U.toVals _ _ base (hβ _ _ j)
 |.func fn f c,v,h=>by
  cases h with
  |func _ H _ _ J L z A N O P=>
   have C:=Fv f J ⟨A,N⟩;have D:=Fv c L ⟨O,P⟩;exact @VR.func U.toVals _ _ H _ _ J L (RI hV hK hβ hM z) C.1 C.2 D.1 D.2
 |.nilFunc,v,h=>by cases h;exact @VR.nilFunc U.toVals _
 |.iface t a,v,h=>by
  cases h with
  |iface _ _ M Q=>exact @VR.iface U.toVals _ t _ M (EM a M Q)
 |.nilIface,v,h=>by cases h;exact @VR.nilIface U.toVals _
 |.agg l,v,h=>by
  cases h with
  |agg _ B z A=>
   have q:=Fv l B ⟨z,A⟩;exact @VR.agg U.toVals _ _ B q.1 q.2
 |.tuple l,v,h=>by
  cases h with
  |tuple _ B z A=>
   have q:=Fv l B ⟨z,A⟩;exact @VR.tuple U.toVals _ _ B q.1 q.2
 |.sb p e,v,h=>by
  cases h;have:=@Fj _ U τ p (e.inst θ);have d:Ai U.V (e.inst θ)=Ai W.V e:=by unfold Ai;rw [BY hV hβ hM]
  rw [d] at this;exact this
 |.si k e,v,h=>by
  cases h;have:=@B5 _ U τ k (e.inst θ);have d:Ag U.V (e.inst θ)=Ag W.V e:=by unfold Ag;rw [BY hV hβ hM]
  rw [d] at this;exact this
 |.ss x,v,h=>by
  cases h;have d:AK U.V (x.inst θ)=AK W.V x:=by unfold AK;rw [BY hV hβ hM]
  have:=@VR.ss U.toVals τ (x.inst θ);rw [d] at this;exact this
 |.dat e x,v,h=>by
  cases h with
  |dat _ _ a n c I=>exact @VR.dat U.toVals τ e _ a n c (by rw [BY hV hβ hM,←hK];exact I.mono hM)
 |.dptr e x i off,v,h=>by
  cases h with
  |dptr _ _ _ _ b o n m R I S h0 hi T=>
   have d:Ag U.V (i.inst θ)=Ag W.V i:=by unfold Ag;rw [BY hV hβ hM]
   have:=@VR.dptr U.toVals τ e (x.inst θ) (i.inst θ) off b o n m R (by rw [BY hV hβ hM,←hK];exact I.mono hM) (by rw [←hK];exact S) (by rw [d];exact h0) (by rw [d];exact hi) T
   rw [d] at this;exact this
 |.asl b w n s,v,h=>by
  have d:Ag U.V (n.inst θ)=Ag W.V n:=by unfold Ag;rw [BY hV hβ hM]
  have y:Ai U.V (s.inst θ)=Ai W.V s:=by unfold Ai;rw [BY hV hβ hM]
  cases h with
  |asl _ _ _ _ m base j h0 F G u=>
   have:=@VR.asl U.toVals τ _ w (n.inst θ) (s.inst θ) m base (hβ _ _ j) (by rw [d];exact h0) (by rw [d];exact F) G (by rw [y];exact u)
   rw [d] at this;exact this
  |aslEnd _ _ _ _ a h0 u=>exact @VR.aslEnd U.toVals τ _ w _ _ a (by rw [d];exact h0) (by rw [y];exact u)
 |.eslc s,v,h=>by
  have y:Ai U.V (s.inst θ)=Ai W.V s:=by unfold Ai;rw [BY hV hβ hM]
  cases h with
  |eslc _ a u=>exact @VR.eslc U.toVals τ _ a (by rw [y];exact u)
 |.aptr b w i off,v,h=>by
  have d:Ag U.V (i.inst θ)=Ag W.V i:=by unfold Ag;rw [BY hV hβ hM]
  cases h with
  |aptr _ _ _ _ base j h0=>
   have:=@VR.aptr U.toVals τ _ w (i.inst θ) off base (hβ _ _ j) (by rw [d];exact h0)
   rw [d] at this;exact this
 |.nmap b s,v,h=>by
  have y:Ai U.V (s.inst θ)=Ai W.V s:=by unfold Ai;rw [BY hV hβ hM]
  cases h with
  |nmap _ _ base j u=>exact @VR.nmap U.toVals τ _ _ base (hβ _ _ j) (by rw [y];exact u)
  |nmap0 _ _ u=>exact @VR.nmap0 U.toVals τ _ _ (by rw [y];exact u)
 |.stamp b,v,h=>by
  cases h with
  |stamp _ base j=>exact @VR.stamp U.toVals τ _ base (hβ _ _ j)
 |.glob g off,v,h=>by cases h;exact @VR.glob U.toVals _ _ _
theorem Fv:∀(l:List AV) (E:List Value),@VL W.toVals σ l E→@VL U.toVals τ (@AV.instL U.toFacts θ β l) E
 |[],E,h=>by have:=VL.nil_inv (U:=W.toVals) h;subst this;exact VL.nil (U:=U.toVals) _
 |a::l,E,h=>by
  obtain ⟨v,r,rfl,C,D⟩:=VL.cons_inv (U:=W.toVals) h;exact VL.cons (U:=U.toVals) (EM a v C) (Fv l r D)
end
theorem Ld:∀(l:List Al) (c:List MapEntry),@ER W.toVals σ l c→@ER U.toVals τ (@PO U.toFacts θ β l) c
 |[],[],_=>trivial
 |a::l,e::r,h=>⟨EM hV hK hβ hM _ _ h.1,EM hV hK hβ hM _ _ h.2.1,h.2.2.1,Ld l r h.2.2.2⟩
theorem OX {x y:Ab} {base:Bh} {ob:Option Obj} (h:@Ab.inst U.toFacts θ β x=some y) (d:@BR W.toVals σ x base ob):@BR U.toVals τ y base ob:=by
 unfold Ab.inst at h;split at h
 ·cases h;obtain ⟨f,e,r,g,j,m,n,o⟩:=d;refine ⟨f,e,r,g,j,m,n,fun i a hi p=>?_⟩
  rw [T.get_mapA] at p;cases c:(_:T AV).get i with
  |none=>rw [c] at p;cases p
  |some a0=>
   rw [c] at p;cases p;obtain ⟨v,A,B⟩:=o i a0 hi c;exact ⟨v,A,EM hV hK hβ hM _ _ B⟩
 ·cases h;obtain ⟨C,f,D,r,g,j,m,n,o⟩:=d;exact ⟨C,f,D,r,by rw [←hK];exact g,j,m,n,by rw [BY hV hβ hM,←hK];exact o.mono hM⟩
 ·cases h;obtain ⟨E,g,j⟩:=d;exact ⟨E,g,Ld hV hK hβ hM _ _ j⟩
 ·cases h;obtain ⟨s,t,u,l,g,j,m,n,o⟩:=d;exact ⟨s,t,u,l,by rw [←hK];exact g,by rw [←hK];exact j,m,by rw [BY hV hβ hM,←hK];exact n.mono hM,o⟩
 ·cases h;exact d
 ·cases h;obtain ⟨F,w,q⟩:=d;cases F with
  |nil=>exact ⟨[],trivial,q⟩
  |cons=>exact w.elim
 ·cases h;obtain ⟨tm,G,w,q,H⟩:=d;refine ⟨tm,G,hβ _ _ w,@TR.mk U.toVals τ _ _ _ (@TR.size W.toVals σ _ _ _ q) (fun i x c=>?_),H⟩
  rw [T.get_mapA] at c;cases z:(_:T AV).get i with
  |none=>rw [z] at c;cases c
  |some a0=>
   rw [z] at c;cases c;exact EM hV hK hβ hM _ _ (@TR.get W.toVals σ _ _ _ q i a0 z)
 ·cases h
end
end Go.AE

