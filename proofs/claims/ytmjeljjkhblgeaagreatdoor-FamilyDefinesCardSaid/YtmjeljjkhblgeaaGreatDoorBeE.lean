/- What is proved here: an evaluator of the model's steps that the kernel can run, and that whatever it answers is what the model does (part 5 of 8: AeDraw1, AeDraw2, AeDraw3, AeDraw4, AeDraw5, AeDraw6, AeDraw7, AeDraw8, AeRun1, AeRun2, AeNorm, AeCode, AePat1, AePat2, AePat3). Conditions: those that each theorem states; they hold of no one program. -/
import Derived.Test.YtmjeljjkhblgeaaGreatDoorBeD
import Derived.Orders
set_option linter.unusedVariables false
set_option linter.unusedSectionVars false
set_option linter.unusedSimpArgs false
namespace Go.AE
variable [Gl:AH]
variable [U:Unk]
def WF (h:Aa):Prop:=∀b,h.nx≤b→h.blk.get b=none
theorem Ext.wf {ρ i:Ren} {h h':Aa} {w j:World} (e:Ext ρ i h h' w j) (l:WF h):WF h':=by
 intro b C;have:=e.nx;cases r:h'.blk.get b with
 |none=>rfl
 |some x=>
  rcases e.live b (by rw [r];exact fun e=>by cases e) with t|⟨_,h2⟩
  ·exact absurd (l b (by omega)) t
  ·omega
def B4 (P:Program) (m:Machine) (c0:Frame) (base:List Frame) (ok:Bool) (v:Value) (w:World):Prop:=
 match ok with
 |true=>Steps P m (lone (c0.finish v) base w)
 |false=>Steps P m (lone (c0.raise [{v:=v,recovered:=false}]) base w)
theorem B4.head {P:Program} {m i:Machine} {c0:Frame} {base:List Frame} {ok:Bool} {v:Value} {w:World} (h:step P m=.next i) (k:B4 P i c0 base ok v w):B4 P m c0 base ok v w:=by
 cases ok
 ·exact Steps.head h k
 ·exact Steps.head h k
def C8 (E:Env) (a:Ask→Aa→Option (Bool×AV×Aa)):Prop:=
 (∀(f:FuncId) (args:List AV) (b:List Value) (h g:Aa) (ok:Bool) (v:AV) (c:Ren) (w:World),VL c args b→HR c h.blk.get w→WF h→a (.enter f args) h=some (ok,v,g)→AJ c h.nx g.nx→
  ∀(c0:Frame) (base:List Frame),∃d i e,B4 E.P (lone (Frame.enter E.P f b.toArray .normal) (c0::base) w) c0 base ok i e∧VR d v i∧HR d g.blk.get e∧Ext c d h g w e)∧
 (∀(l:Nat) (args:List AV) (h g:Aa) (ok:Bool) (v:AV) (c:Ren) (w:World),HR c h.blk.get w→WF h→a (.round l args) h=some (ok,v,g)→AJ c h.nx g.nx→
  ∃fr,Gx l args h=some fr∧∀(j:Frame),FrR c fr j→∀(c0:Frame) (base:List Frame),∃d i e,B4 E.P (lone j (c0::base) w) c0 base ok i e∧VR d v i∧HR d g.blk.get e∧Ext c d h g w e)
def part (h:Aa):Option (List Nat)→Aa
 |some a=>{blk:=Dh h a,nx:=h.nx,log:=[]}
 |none=>{h with log:=[]}
theorem Dp (h:Aa):∀(l:List Nat) (b:Nat),(Dh h l).get b=none∨(b∈l∧(Dh h l).get b=h.blk.get b)
 |[],b=>.inl (T.get_nil b)
 |c::r,b=>by
  simp only [Dh];cases f:h.blk.get c with
  |none=>
   rcases Dp h r b with q|⟨a,d⟩
   ·exact .inl q
   ·exact .inr ⟨by simp [a],d⟩
  |some x=>
   simp only [T.get_set];by_cases e:c=b
   ·subst e;rw [if_pos rfl];exact .inr ⟨by simp,f.symm⟩
   ·rw [if_neg e];rcases Dp h r b with q|⟨a,d⟩
    ·exact .inl q
    ·exact .inr ⟨by simp [a],d⟩
theorem MK {h:Aa} (c:WF h) (fp:Option (List Nat)):WF (part h fp):=by
 intro b d;cases fp with
 |none=>exact c b d
 |some a=>
  rcases Dp h a b with q|⟨_,q⟩
  ·exact q
  ·exact q.trans (c b d)
theorem Rn {f:Ren} {a:AV} {v:Value} (h:VR f a v):VR f (iL a) v:=by
 unfold iL;split
 ·rename_i b i;split
  ·rename_i d;have e:=Ar U.ok d;cases h with
   |nmap _ _ base g c=>rw [c] at e;cases e
   |nmap0=>exact .map0
  ·rename_i d;have e:=Ar U.ok d;cases h with
   |nmap _ _ base g c=>exact .map _ base g
   |nmap0 _ _ c=>rw [c] at e;cases e
  ·exact h
 ·exact h
theorem Dt (t:T AV):∀(l:List Tmp) (i:Tmp) (x:AV),(A0 t l).get i=some x→i∈l∧∃y,t.get i=some y∧x=iL y
 |[],i,x,h=>by rw [A0,T.get_nil] at h;cases h
 |c::r,i,x,h=>by
  simp only [A0] at h;cases a:t.get c with
  |none=>
   rw [a] at h;obtain ⟨b,d⟩:=Dt t r i x h;exact ⟨by simp [b],d⟩
  |some y=>
   rw [a] at h;simp only [T.get_set] at h;by_cases e:c=i
   ·subst e;rw [if_pos rfl] at h;cases h;exact ⟨by simp,_,a,rfl⟩
   ·rw [if_neg e] at h;obtain ⟨b,d⟩:=Dt t r i x h;exact ⟨by simp [b],d⟩
section
variable {E:Env} (hE:OK E) {callF:Ask→Aa→Option (Bool×AV×Aa)} {ρ:Ren} {h:Aa} {w:World} {c:Frame} {cs:List Frame}
include hE
theorem Rd (X:C8 E callF) {all:Array Oper} {o:Oper} {nt:Nat} {t:T AV} {d:Did} {i:Nat} {rest:List Nat} {k:List Item} (m:C7 E callF all o t h=some d) (hwf:WF h) (K:c.mode=.run)
  (B:c.todo=.inRegion all (i::rest)::k) (L:all[i]?=some o) (M:TR ρ nt t c.tmps) (hr:HR ρ (part h d.fp).blk.get w) (n:AJ ρ h.nx d.g.nx) :
  ∃C F D,B4 E.P (lone c cs w) c cs d.ok F D∧VR C d.v F∧HR C d.g.blk.get D∧Ext ρ C (part h d.fp) d.g w D:=by
 have H:EvR ρ t c.eval:=by
  intro x;have:=JJ M x;cases x<;>exact this
 unfold C7 at m;split at m
 ·cases m
 ·rename_i N;have q:=Bs M N;cases m;exact ⟨ρ,undef,w,Steps.one (QY K B L q),VR.undef ρ,hr,Ext.refl _ _ _⟩
 ·rename_i N;have q:=Bs M N;split at m
  ·rename_i G
   have s:∀cl,o.op≠.defer cl:=by
    intro cl e;rw [e] at G;cases G
   simp only at m;split at m
   ·rename_i v g j;cases m;have a:=KL hE (h:=part h (some (eB t h o.op))) hr H o;rw [show aop E t (part h (some (eB t h o.op))) o.op=_ from j] at a
    obtain ⟨C,F,D,I,J,O,Q⟩:=a n;exact ⟨C,F,D,Steps.one (Yn K B L q (.inr s) I),J,O,Q⟩
   ·cases m
  ·have u:∀{r:Res},aop E t {h with log:=[]} o.op=r→(∀d g,r≠.defer d g)→(∀y,r≠.bad y)→∀cl,o.op≠.defer cl:=by
    intro r j Y Z cl e;rw [e] at j;simp only [aop] at j;rcases Du t cl {h with log:=[]} with ⟨d,R⟩|⟨y,R⟩
    ·exact Y _ _ (j.symm.trans R)
    ·exact Z _ (j.symm.trans R)
   split at m
   ·rename_i f args h' j;split at m
    ·rename_i ok v g p;cases m;have a:=KL hE (h:=part h none) hr H o;rw [show aop E t (part h none) o.op=_ from j] at a
     obtain ⟨rfl,z,S,A⟩:=a;have s:=u j (fun _ _ e=>by cases e) (fun _ e=>by cases e)
     obtain ⟨C,F,D,I,J,O,Q⟩:=X.1 f args z (part h none) g ok v ρ w S hr (MK hwf none) p n c cs;exact ⟨C,F,D,I.head (Oq K B L q (.inr s) A),J,O,Q⟩
    ·cases m
   ·rename_i l args h' j;split at m
    ·rename_i ok v g p;cases m;have a:=KL hE (h:=part h none) hr H o;rw [show aop E t (part h none) o.op=_ from j] at a
     obtain ⟨rfl,b,z,hb,S,A⟩:=a;have s:=u j (fun _ _ e=>by cases e) (fun _ e=>by cases e)
     obtain ⟨fr,V,W⟩:=X.2 l args (part h none) g ok v ρ w hr (MK hwf none) p n;obtain ⟨fn,tm,assign,body,I,J⟩:=PS (E:=E) (h:=h) hr hb (show Gx l args h=some fr from V) S
     obtain ⟨C,F,D,p1,p2,p3,p4⟩:=W _ J c cs;exact ⟨C,F,D,p1.head (jF K B L q (.inr s) (A.trans I)),p2,p3,p4⟩
    ·cases m
   ·cases m
end
end Go.AE
namespace Go.AE
variable [Gl:AH]
variable [U:Unk]
theorem Iz {b:Nat}:∀{l:List Nat},Pn b l=true↔b∈l
 |[]=>by simp [Pn]
 |c::r=>by
  simp only [Pn,List.mem_cons];cases e:Nat.beq b c with
  |true=>simp [Aw e]
  |false=>simp only;rw [Iz];simp [US e]
theorem HW:∀{l m:List Nat},Kt l m=true→∀b∈l,b∉m
 |[],m,_,b,a=>by cases a
 |c::r,m,h,b,a=>by
  simp only [Kt] at h;cases e:Pn c m with
  |true=>rw [e] at h;cases h
  |false=>
   rw [e] at h;rcases List.mem_cons.1 a with rfl|a
   ·exact fun d=>by rw [Iz.2 d] at e;cases e
   ·exact HW h b a
theorem Wi {lo hi:Nat}:∀{l:List Nat},fb lo hi l=true→∀b∈l,¬(lo≤b∧b<hi)
 |[],_,b,a=>by cases a
 |c::r,h,b,a=>by
  simp only [fb] at h;cases e:Nat.ble lo c&&Nat.blt c hi with
  |true=>rw [e] at h;cases h
  |false=>
   rw [e] at h;rcases List.mem_cons.1 a with rfl|a
   ·rintro ⟨d,f⟩
    have:(Nat.ble lo b&&Nat.blt b hi)=true:=by simp [Nat.ble_eq,Nat.blt_eq,d,f]
    rw [this] at e;cases e
   ·exact Wi h b a
theorem Ch {n b:Nat}:∀{l:List Nat},b∈BD n l↔b∈l∧b<n
 |[]=>by simp [BD]
 |c::r=>by
  simp only [BD];cases e:Nat.blt c n with
  |true=>
   simp only [List.mem_cons,Ch];have:c<n:=by simpa [Nat.blt_eq] using e
   constructor
   ·rintro (rfl|h)
    ·exact ⟨.inl rfl,this⟩
    ·exact ⟨.inr h.1,h.2⟩
   ·rintro ⟨rfl|h,a⟩
    ·exact .inl rfl
    ·exact .inr ⟨h,a⟩
  |false=>
   simp only [List.mem_cons,Ch]
   have:¬c<n:=by
    intro h;have:Nat.blt c n=true:=by simpa [Nat.blt_eq] using h
    rw [this] at e;cases e
   constructor
   ·rintro h;exact ⟨.inr h.1,h.2⟩
   ·rintro ⟨rfl|h,a⟩
    ·exact absurd a this
    ·exact ⟨h,a⟩
structure Rc.Apart (x y:Rc):Prop where
 fp1:∀b∈x.wr,∀l,y.fp=some l→b∉l
 fp1n:y.fp=none→x.wr=[]
 fp2:∀b∈y.wr,∀l,x.fp=some l→b∉l
 fp2n:x.fp=none→y.wr=[]
 wr:∀b∈x.wr,b∉y.wr
 out:∀b∈y.wr,¬(x.lo≤b∧b<x.hi)
 look1:∀t,x.dst=some t→t∉y.looks
 look2:∀t,y.dst=some t→t∉x.looks
 dst:∀t,x.dst=some t→y.dst≠some t
theorem Ll {w l:List Nat} (h:H8 w (some l)=true):∀b∈w,b∉l:=HW h
theorem Rc.apart_ok {x y:Rc} (h:x.apart y=true):x.Apart y:=by
 simp only [Rc.apart,Bool.and_eq_true,Bool.not_eq_true'] at h;obtain ⟨⟨⟨⟨⟨⟨j,r⟩,h3⟩,h4⟩,C⟩,I⟩,h7⟩:=h;refine ⟨fun b J l hl=>?_,fun hn=>?_,fun b J l hl=>?_,fun hn=>?_,HW h3,Wi h4,fun t i hm=>?_,fun t i hm=>?_,fun t i ab=>?_⟩
 ·rw [hl] at j;exact Ll j b J
 ·rw [hn] at j;simpa [H8] using j
 ·rw [hl] at r;exact Ll r b J
 ·rw [hn] at r;simpa [H8] using r
 ·rw [i] at C;rw [bR,Iz.2 hm] at C;cases C
 ·rw [i] at I;rw [bR,Iz.2 hm] at I;cases I
 ·rw [i,ab,gR,Ff] at h7;cases h7
theorem cV (m i:Nat):Nat.beq (m/2^i%2) 1=m.testBit i:=by
 rw [Nat.testBit_eq_decide_div_mod_eq];by_cases h:m/2^i%2=1
 ·rw [h];rfl
 ·rw [Ee h];simp [h]
theorem LM {y:Rc}:∀{l:List Rc} {p:Nat},C3 y l p=true→∀i x,l[i]?=some x→y.mask.testBit (p+i)=true∨x.Apart y
 |[],p,h,i,x,a=>by cases a
 |c::r,p,h,i,x,a=>by
  simp only [C3,cV] at h;cases e:y.mask.testBit p||c.apart y with
  |false=>rw [e] at h;cases h
  |true=>
   rw [e] at h;cases i with
   |zero=>
    simp only [List.getElem?_cons_zero,Option.some.injEq] at a;subst a;rcases Bool.or_eq_true_iff.1 e with e|e
    ·exact .inl e
    ·exact .inr (Rc.apart_ok e)
   |succ i=>
    have:=LM h i x (by simpa using a)
    rw [show p+(i+1)=p+1+i by omega]
    exact this
theorem DG {recs:List Rc}:∀{j:List Edge} {m:Nat},BI recs j=some m→
  (∀e∈j,Region.binds .any e=true→∃x,recs[e.on]?=some x)∧
  ∀i,m.testBit i=true↔∃e∈j,Region.binds .any e=true∧∃x,recs[e.on]?=some x∧(x.mask.testBit i=true∨i=e.on)
 |[],m,h=>by
  simp only [BI,Option.some.injEq] at h;subst h;simp
 |e::r,m,h=>by
  simp only [BI] at h;cases hr:BI recs r with
  |none=>rw [hr] at h;cases h
  |some o=>
   rw [hr] at h;obtain ⟨l,n⟩:=DG hr;simp only at h;cases f:Region.binds .any e with
   |false=>
    rw [f] at h;simp only [Option.some.injEq] at h;subst h;refine ⟨fun a c b=>?_,fun i=>?_⟩
    ·rcases List.mem_cons.1 c with rfl|c
     ·rw [f] at b;cases b
     ·exact l a c b
    ·rw [n];constructor
     ·rintro ⟨a,c,d⟩;exact ⟨a,by simp [c],d⟩
     ·rintro ⟨a,c,b,d⟩
      rcases List.mem_cons.1 c with rfl|c
      ·rw [f] at b;cases b
      ·exact ⟨a,c,b,d⟩
   |true=>
    rw [f] at h;simp only at h;cases g:recs[e.on]? with
    |none=>rw [g] at h;cases h
    |some x=>
     rw [g] at h;simp only [Option.some.injEq] at h;subst h;refine ⟨fun a c b=>?_,fun i=>?_⟩
     ·rcases List.mem_cons.1 c with rfl|c
      ·exact ⟨x,g⟩
      ·exact l a c b
     ·simp only [Nat.testBit_or,Bool.or_eq_true,Nat.testBit_two_pow,decide_eq_true_eq,n];constructor
      ·rintro ((⟨a,c,d⟩|h)|h)
       ·exact ⟨a,by simp [c],d⟩
       ·exact ⟨e,by simp,f,x,g,.inl h⟩
       ·exact ⟨e,by simp,f,x,g,.inr h.symm⟩
      ·rintro ⟨a,c,b,y,k,d⟩
       rcases List.mem_cons.1 c with rfl|c
       ·rw [g] at k;cases k;rcases d with d|d
        ·exact .inl (.inr d)
        ·exact .inr d.symm
       ·exact .inl (.inl ⟨a,c,b,y,k,d⟩)
theorem FA (blk g:T Ab):∀(l:List Nat) (b:Nat),(b∉l→(GC blk g l).get b=blk.get b)∧(b∈l→(GC blk g l).get b=none∨(blk.get b≠none∧(GC blk g l).get b=g.get b))
 |[],b=>⟨fun _=>rfl,(fun h=>by cases h)⟩
 |c::r,b=>by
  have ih:=FA blk g r b;simp only [GC];split
  ·rename_i x y a d;rw [T.get_set];refine ⟨fun h=>?_,fun h=>?_⟩
   ·rw [if_neg (by rintro rfl;simp at h)];exact ih.1 (by simp at h;exact h.2)
   ·by_cases e:c=b
    ·subst e;rw [if_pos rfl];exact .inr ⟨(by rw [d];exact Option.some_ne_none _),a.symm⟩
    ·rw [if_neg e];exact ih.2 ((List.mem_cons.1 h).resolve_left (fun q=>e q.symm))
  ·rw [T.get_del];refine ⟨fun h=>?_,fun h=>?_⟩
   ·rw [if_neg (by rintro rfl;simp at h)];exact ih.1 (by simp at h;exact h.2)
   ·by_cases e:c=b
    ·subst e;rw [if_pos rfl];exact .inl rfl
    ·rw [if_neg e];exact ih.2 ((List.mem_cons.1 h).resolve_left (fun q=>e q.symm))
theorem FE (blk g:T Ab):∀(n i b:Nat),(Im blk g i n).get b=if i≤b∧b<i+n∧g.get b≠none then g.get b else blk.get b
 |0,i,b=>by
  simp only [Im];rw [if_neg (by omega)]
 |n+1,i,b=>by
  have ih:=FE blk g n (i+1) b;simp only [Im];cases a:g.get i with
  |none=>
   simp only;rw [ih];by_cases e:i=b
   ·subst e;rw [if_neg (by omega),if_neg (by rintro ⟨_,_,h⟩;exact h a)]
   ·by_cases q:i+1≤b∧b<i+1+n∧g.get b≠none
    ·rw [if_pos q,if_pos ⟨by omega,by omega,q.2.2⟩]
    ·rw [if_neg q,if_neg (by rintro ⟨d,f,c⟩;exact q ⟨by omega,by omega,c⟩)]
  |some x=>
   simp only [T.get_set];by_cases e:i=b
   ·subst e;rw [if_pos rfl,if_pos ⟨by omega,by omega,(by rw [a];exact Option.some_ne_none _)⟩,a]
   ·rw [if_neg e,ih];by_cases q:i+1≤b∧b<i+1+n∧g.get b≠none
    ·rw [if_pos q,if_pos ⟨by omega,by omega,q.2.2⟩]
    ·rw [if_neg q,if_neg (by rintro ⟨d,f,c⟩;exact q ⟨by omega,by omega,c⟩)]
section
variable {h g:Aa}
theorem CB (c:h.nx≤g.nx) {b:Nat} (a:b∉BD h.nx g.log) (d:b<h.nx∨g.nx≤b):(AX h g).blk.get b=h.blk.get b:=by
 simp only [AX,FE];rw [if_neg (by omega)]
 exact (FA _ _ _ b).1 a
theorem GV {b:Nat} (a:b∈BD h.nx g.log):(AX h g).blk.get b=none∨(h.blk.get b≠none∧(AX h g).blk.get b=g.blk.get b):=by
 have c:=(Ch.1 a).2;simp only [AX,FE];rw [if_neg (by omega)]
 exact (FA _ _ _ b).2 a
theorem HX (c:WF h) (f:h.nx≤g.nx) {b:Nat} (a:h.nx≤b) (i:b<g.nx):(AX h g).blk.get b=g.blk.get b:=by
 simp only [AX,FE];have d:b∉BD h.nx g.log:=fun e=>by have:=(Ch.1 e).2;omega
 cases j:g.blk.get b with
 |none=>
  rw [if_neg (by rintro ⟨_,_,h⟩;exact h rfl),(FA _ _ _ b).1 d,c b a]
 |some x=>rw [if_pos ⟨a,by omega,fun e=>by cases e⟩]
theorem G3 (c:WF h) (d:h.nx≤g.nx):WF (AX h g):=by
 intro b f;have a:g.nx≤b:=f;rw [CB d (fun e=>by have:=(Ch.1 e).2;omega) (.inr a)]
 exact c b (by omega)
theorem GB (e:WF h) (d:h.nx≤g.nx) {b:Nat} (a:(AX h g).blk.get b≠none):h.blk.get b≠none∨(h.nx≤b∧b<g.nx):=by
 by_cases f:b<h.nx
 ·by_cases c:b∈BD h.nx g.log
  ·rcases GV c with q|⟨q,_⟩
   ·exact absurd q a
   ·exact .inl q
  ·rw [CB d c (.inl f)] at a;exact .inl a
 ·by_cases c:b<g.nx
  ·exact .inr ⟨by omega,c⟩
  ·exact absurd (G3 e d b (by show g.nx≤b;omega)) a
end
end Go.AE
namespace Go.AE
variable [Gl:AH]
variable [U:Unk]
structure Tx (E:Env) (callF:Ask→Aa→Option (Bool×AV×Aa)) (all:Array Oper) (H:Nat→Aa) (Tm:Nat→T AV) (R:Nat→Rc) (Dd:Nat→Did) (j:Nat) (o:Oper):Prop where
 mask:BI ((List.range j).map R) o.after.toList=some (R j).mask
 did:C7 E callF all o (A0 (Tm j) (Bg all o)) (H j)=some (Dd j)
 nx:(H j).nx≤(Dd j).g.nx
structure Good (E:Env) (callF:Ask→Aa→Option (Bool×AV×Aa)) (all:Array Oper) (nt:Nat) (H:Nat→Aa) (Tm:Nat→T AV) (R:Nat→Rc) (Dd:Nat→Did) (j:Nat) (o:Oper):Prop where
 tx:Tx E callF all H Tm R Dd j o
 wr:(R j).wr=BD (H j).nx (Dd j).g.log
 fp:(R j).fp=(Dd j).fp
 lo:(R j).lo=(H j).nx
 hi:(R j).hi=(Dd j).g.nx
 dst:(R j).dst=o.dst
 looks:(R j).looks=Bg all o
 apart:C3 (R j) ((List.range j).map R) 0=true
 put:Ei nt (Tm j) o.dst (Dd j).v=some (Tm (j+1))
 heap:H (j+1)=AX (H j) (Dd j).g
 ok:(Dd j).ok=true
structure Bad (E:Env) (callF:Ask→Aa→Option (Bool×AV×Aa)) (all:Array Oper) (H:Nat→Aa) (Tm:Nat→T AV) (R:Nat→Rc) (Dd:Nat→Did) (j:Nat) (o:Oper) (rest:List Oper):Prop where
 tx:Tx E callF all H Tm R Dd j o
 ok:(Dd j).ok=false
 all:(R j).mask+1=2^j
 after:∃recs:List Rc,recs.length=j∧recs=(List.range j).map R∧Fm (recs++[{wr:=[],fp:=none,lo:=0,hi:=0,dst:=none,looks:=[],mask:=(R j).mask}]) j rest=true
section
variable {E:Env} {callF:Ask→Aa→Option (Bool×AV×Aa)} {all:Array Oper} {nt:Nat}
theorem JN {b:Type} {R:Nat→b} {a:List b} (h:∀i x,a[i]?=some x→R i=x):(List.range a.length).map R=a:=by
 apply List.ext_getElem (by simp)
 intro i d c;simp only [List.getElem_map,List.getElem_range];exact h i _ (by simp [c])
theorem I9:∀(l:List Oper) (a:List Rc) (tmps:T AV) (h:Aa) (r:Option AV) (f:T AV) (h':Aa),BH E callF all nt l a tmps h=some (r,f,h')→
  ∃H A R F m,(∀i x,a[i]?=some x→R i=x)∧H a.length=h∧A a.length=tmps∧(∀i,i<m→∃o,l[i]?=some o∧Good E callF all nt H A R F (a.length+i) o)∧
   (r=none→m=l.length∧f=A (a.length+m)∧h'=H (a.length+m))∧
   (∀v,r=some v→∃o,l[m]?=some o∧Bad E callF all H A R F (a.length+m) o (l.drop (m+1))∧v=(F (a.length+m)).v∧f=A (a.length+m)∧h'=AX (H (a.length+m)) (F (a.length+m)).g)
 |[],a,tmps,h,r,f,h',c=>by
  simp only [BH,Option.some.injEq,Prod.mk.injEq] at c;obtain ⟨rfl,rfl,rfl⟩:=c;exact ⟨fun _=>h,fun _=>tmps,fun i=>a.getD i default,fun _=>default,0,fun i x B=>by simp [B],rfl,rfl,fun i hi=>absurd hi (Nat.not_lt_zero _),fun _=>⟨rfl,rfl,rfl⟩,(fun v K=>by cases K)⟩
 |o::rest,a,tmps,h,r,f,h',c=>by
  simp only [BH] at c;cases s:BI a o.after.toList with
  |none=>rw [s] at c;cases c
  |some mask=>
   rw [s] at c;simp only at c;cases z:C7 E callF all o (A0 tmps (Bg all o)) h with
   |none=>rw [z] at c;cases c
   |some d=>
    rw [z] at c;simp only at c;cases G:Nat.ble h.nx d.g.nx with
    |false=>rw [G] at c;cases c
    |true=>
     have N:h.nx≤d.g.nx:=Nat.le_of_ble_eq_true G;cases I:d.ok with
     |true=>
      rw [G,I] at c;simp only at c;cases L:C3 {wr:=BD h.nx d.g.log,fp:=d.fp,lo:=h.nx,hi:=d.g.nx,dst:=o.dst,looks:=Bg all o,mask} a 0 with
      |false=>rw [L] at c;cases c
      |true=>
       rw [L] at c;simp only at c;cases C:Ei nt tmps o.dst d.v with
       |none=>rw [C] at c;cases c
       |some t1=>
        rw [C] at c;simp only at c;obtain ⟨H,A,R,F,m,Y,Z,q3,q4,q5,q6⟩:=I9 rest _ t1 _ r f h' c;have hl:(a++[({wr:=BD h.nx d.g.log,fp:=d.fp,lo:=h.nx,hi:=d.g.nx,dst:=o.dst,looks:=Bg all o,mask}:Rc)]).length=a.length+1:=by simp
        rw [hl] at Z q3 q4 q5 q6;have hR:R a.length={wr:=BD h.nx d.g.log,fp:=d.fp,lo:=h.nx,hi:=d.g.nx,dst:=o.dst,looks:=Bg all o,mask}:=Y _ _ (by simp)
        have k:∀i x,a[i]?=some x→R i=x:=fun i x B=>Y i x (by rw [List.getElem?_append_left (List.getElem?_eq_some_iff.1 B).1];exact B)
        have D:=JN k;have q:∀j,a.length+1≤j→(fun i=>if i≤a.length then h else H i) j=H j:=fun j n=>if_neg (by omega)
        have w:∀j,a.length+1≤j→(fun i=>if i≤a.length then tmps else A i) j=A j:=fun j n=>if_neg (by omega)
        have p:∀j,a.length+1≤j→(fun i=>if i≤a.length then d else F i) j=F j:=fun j n=>if_neg (by omega)
        have y:(fun i=>if i≤a.length then h else H i) a.length=h:=if_pos (Nat.le_refl _)
        have J:(fun i=>if i≤a.length then tmps else A i) a.length=tmps:=if_pos (Nat.le_refl _)
        have u:(fun i=>if i≤a.length then d else F i) a.length=d:=if_pos (Nat.le_refl _)
        generalize (fun i=>if i≤a.length then h else H i)=Q at q y
        generalize (fun i=>if i≤a.length then tmps else A i)=O at w J
        generalize (fun i=>if i≤a.length then d else F i)=M at p u
        have P:∀j x,a.length+1≤j→Tx E callF all H A R F j x→Tx E callF all Q O R M j x:=by
         intro j x n t;refine ⟨t.mask,?_,?_⟩
         ·rw [w j n,q j n,p j n];exact t.did
         ·rw [q j n,p j n];exact t.nx
        have e:∀i,a.length+(i+1)=a.length+1+i:=fun i=>by omega
        refine ⟨Q,O,R,M,m+1,k,y,J,?_,?_,?_⟩
        ·intro i hi;cases i with
         |zero=>
          refine ⟨o,rfl,⟨⟨?_,?_,?_⟩,?_,?_,?_,?_,?_,?_,?_,?_,?_,?_⟩⟩
          ·rw [Nat.add_zero,D,hR];exact s
          ·rw [Nat.add_zero,J,y,u];exact z
          ·rw [Nat.add_zero,y,u];exact N
          ·rw [Nat.add_zero,hR,y,u]
          ·rw [Nat.add_zero,hR,u]
          ·rw [Nat.add_zero,hR,y]
          ·rw [Nat.add_zero,hR,u]
          ·rw [Nat.add_zero,hR]
          ·rw [Nat.add_zero,hR]
          ·rw [Nat.add_zero,D,hR];exact L
          ·rw [Nat.add_zero,J,u,w _ (Nat.le_refl _),q3];exact C
          ·show Q (a.length+1)=AX (Q a.length) (M a.length).g;rw [y,u,q _ (Nat.le_refl _),Z]
          ·rw [Nat.add_zero,u];exact I
         |succ i=>
          obtain ⟨x,B,g⟩:=q4 i (by omega)
          have n:a.length+1≤a.length+1+i:=by omega
          refine ⟨x,by simpa using B,?_⟩
          rw [e];refine ⟨P _ _ n g.tx,?_,?_,?_,?_,g.dst,g.looks,g.apart,?_,?_,?_⟩
          ·rw [q _ n,p _ n];exact g.wr
          ·rw [p _ n];exact g.fp
          ·rw [q _ n];exact g.lo
          ·rw [p _ n];exact g.hi
          ·rw [w _ n,p _ n,w _ (by omega)];exact g.put
          ·rw [q _ n,p _ n,q _ (by omega)];exact g.heap
          ·rw [p _ n];exact g.ok
        ·intro hr;obtain ⟨S,V,W⟩:=q5 hr;refine ⟨by simp [S],?_,?_⟩
         ·rw [e,w _ (by omega)];exact V
         ·rw [e,q _ (by omega)];exact W
        ·intro v K;obtain ⟨x,B,b,S,V,W⟩:=q6 v K;have n:a.length+1≤a.length+1+m:=by omega
         refine ⟨x,by simpa using B,?_,?_,?_,?_⟩
         ·rw [e];exact ⟨P _ _ n b.tx,by rw [p _ n];exact b.ok,b.all,by simpa using b.after⟩
         ·rw [e,p _ n];exact S
         ·rw [e,w _ n];exact V
         ·rw [e,q _ n,p _ n];exact W
     |false=>
      rw [G,I] at c;simp only at c;cases X:Nat.beq (mask+1) (2^a.length)&&Fm (a++[{wr:=[],fp:=none,lo:=0,hi:=0,dst:=none,looks:=[],mask}]) a.length rest with
      |false=>rw [X] at c;cases c
      |true=>
       rw [X] at c;simp only [Option.some.injEq,Prod.mk.injEq] at c;obtain ⟨rfl,rfl,rfl⟩:=c;obtain ⟨c1,c2⟩:=Aq X
       have k:∀i x,a[i]?=some x→(fun i=>if i<a.length then a.getD i default else ({wr:=[],fp:=none,lo:=0,hi:=0,dst:=none,looks:=[],mask}:Rc)) i=x:=by
        intro i x B;have:=(List.getElem?_eq_some_iff.1 B).1;simp only [this,if_true];simp [B]
       have hR:(fun i=>if i<a.length then a.getD i default else ({wr:=[],fp:=none,lo:=0,hi:=0,dst:=none,looks:=[],mask}:Rc)) a.length={wr:=[],fp:=none,lo:=0,hi:=0,dst:=none,looks:=[],mask}:=if_neg (Nat.lt_irrefl _)
       generalize (fun i=>if i<a.length then a.getD i default else ({wr:=[],fp:=none,lo:=0,hi:=0,dst:=none,looks:=[],mask}:Rc))=R at k hR
       have D:=JN k;refine ⟨fun _=>h,fun _=>tmps,R,fun _=>d,0,k,rfl,rfl,fun i hi=>absurd hi (Nat.not_lt_zero _),(fun K=>by cases K),fun v K=>?_⟩
       cases K;refine ⟨o,rfl,⟨⟨?_,z,N⟩,I,?_,a,rfl,?_,?_⟩,rfl,rfl,rfl⟩
       ·rw [Nat.add_zero,D,hR];exact s
       ·show (R a.length).mask+1=2^a.length;rw [hR];exact Aw c1
       ·rw [Nat.add_zero,D]
       ·rw [Nat.add_zero,hR];simpa using c2
end
end Go.AE
namespace Go.AE
variable [Gl:AH]
variable [U:Unk]
def ins (D:Nat→Bool) (j:Nat):Nat→Bool:=fun i=>if i=j then true else D i
def Cn (H:Nat→Aa) (R:Nat→Rc) (D:Nat→Bool):Nat→Nat→Option Ab
 |0,b=>(H 0).blk.get b
 |j+1,b=>if D j=true∧(b∈(R j).wr∨((R j).lo≤b∧b<(R j).hi)) then (H (j+1)).blk.get b else Cn H R D j b
def Tn (a:Nat→T AV) (R:Nat→Rc) (D:Nat→Bool):Nat→Tmp→Option AV
 |0,t=>(a 0).get t
 |j+1,t=>if D j=true∧(R j).dst=some t then (a (j+1)).get t else Tn a R D j t
structure B5 (E:Env) (callF:Ask→Aa→Option (Bool×AV×Aa)) (all:Array Oper) (nt:Nat) (H:Nat→Aa) (Tm:Nat→T AV) (R:Nat→Rc) (Dd:Nat→Did) (n:Nat):Prop where
 good:∀j,j<n→∃o,all[j]?=some o∧Good E callF all nt H Tm R Dd j o
 wf:WF (H 0)
section
variable {E:Env} {callF:Ask→Aa→Option (Bool×AV×Aa)} {all:Array Oper} {nt:Nat} {H:Nat→Aa} {Tm:Nat→T AV} {R:Nat→Rc} {Dd:Nat→Did} {n:Nat}
 (X:B5 E callF all nt H Tm R Dd n)
include X
theorem B5.hi {j:Nat} (i:j<n):(H (j+1)).nx=(R j).hi:=by
 obtain ⟨o,_,g⟩:=X.good j i;rw [g.heap,g.hi];rfl
theorem B5.lo {j:Nat} (i:j<n):(R j).lo=(H j).nx:=by
 obtain ⟨o,_,g⟩:=X.good j i;exact g.lo
theorem B5.le {j:Nat} (i:j<n):(R j).lo≤(R j).hi:=by
 obtain ⟨o,_,g⟩:=X.good j i;rw [g.lo,g.hi];exact g.tx.nx
theorem B5.mono {i:Nat}:∀{j:Nat},i≤j→j≤n→(H i).nx≤(H j).nx
 |0,l,_=>by rw [Nat.le_zero.1 l];exact Nat.le_refl _
 |j+1,l,r=>by
  rcases Nat.lt_or_ge i (j+1) with h|h
  ·have:=B5.mono (i:=i) (j:=j) (by omega) (by omega)
   have t:=X.hi (j:=j) (by omega)
   have C:=X.lo (j:=j) (by omega)
   have I:=X.le (j:=j) (by omega)
   omega
  ·have:i=j+1:=by omega
   rw [this];exact Nat.le_refl _
theorem B5.wfAt:∀{j:Nat},j≤n→WF (H j)
 |0,_=>X.wf
 |j+1,i=>by
  obtain ⟨o,_,g⟩:=X.good j (by omega)
  rw [g.heap];exact G3 (B5.wfAt (j:=j) (by omega)) g.tx.nx
theorem B5.bits {j:Nat} (C:j<n):∀{i:Nat},(R j).mask.testBit i=true→i<j:=by
 induction j using Nat.strongRecOn with
 |ind j ih=>
  intro i hi;obtain ⟨o,_,g⟩:=X.good j C;obtain ⟨e,I,J,x,r,h⟩:=((DG g.tx.mask).2 i).1 hi
  have l:e.on<j:=by
   have:=(List.getElem?_eq_some_iff.1 r).1;simpa using this
  have t:x=R e.on:=by
   rw [List.getElem?_map,List.getElem?_range l] at r;simpa using r.symm
  rcases h with h|h
  ·rw [t] at h;have:=ih e.on l (by omega) h
   omega
  ·omega
theorem B5.apart {i j:Nat} (l:i<j) (r:j<n) (t:(R j).mask.testBit i=false):(R i).Apart (R j):=by
 obtain ⟨o,_,g⟩:=X.good j r;rcases LM g.apart i (R i) (by rw [List.getElem?_map,List.getElem?_range l];rfl) with h|h
 ·rw [Nat.zero_add,t] at h;cases h
 ·exact h
theorem B5.stay {j:Nat} (l:j<n) {b:Nat} (i:b∉(R j).wr) (r:¬((R j).lo≤b∧b<(R j).hi)):(H (j+1)).blk.get b=(H j).blk.get b:=by
 obtain ⟨o,_,g⟩:=X.good j l;rw [g.wr] at i;rw [g.lo,g.hi] at r;rw [g.heap];exact CB g.tx.nx i (by omega)
theorem B5.wr_lt {j:Nat} (l:j<n) {b:Nat} (i:b∈(R j).wr):b<(H j).nx:=by
 obtain ⟨o,_,g⟩:=X.good j l;rw [g.wr] at i;exact (Ch.1 i).2
theorem B5.cn_text {D:Nat→Bool} {b:Nat}:∀{m:Nat},m≤n→(∀i,i<m→D i=false→b∉(R i).wr∧¬((R i).lo≤b∧b<(R i).hi))→Cn H R D m b=(H m).blk.get b
 |0,_,_=>rfl
 |m+1,r,h=>by
  simp only [Cn];by_cases j:D m=true∧(b∈(R m).wr∨((R m).lo≤b∧b<(R m).hi))
  ·rw [if_pos j]
  ·rw [if_neg j,B5.cn_text (m:=m) (by omega) fun i hi=>h i (by omega)]
   have:b∉(R m).wr∧¬((R m).lo≤b∧b<(R m).hi):=by
    cases l:D m with
    |false=>exact h m (by omega) l
    |true=>exact ⟨fun q=>j ⟨l,.inl q⟩,fun q=>j ⟨l,.inr q⟩⟩
   exact (X.stay (by omega) this.1 this.2).symm
omit X in
theorem MT {D:Nat→Bool} {b j:Nat}:∀{m:Nat},j≤m→(∀i,j≤i→i<m→D i=true→b∉(R i).wr∧¬((R i).lo≤b∧b<(R i).hi))→Cn H R D m b=Cn H R D j b
 |0,hj,_=>by rw [Nat.le_zero.1 hj]
 |m+1,hj,h=>by
  rcases Nat.lt_or_ge j (m+1) with hlt|hge
  ·simp only [Cn];rw [if_neg,MT (by omega) fun i h1 h2=>h i h1 (by omega)]
   rintro ⟨hD,q⟩
   obtain ⟨a1,a2⟩:=h m (by omega) (by omega) hD
   exact q.elim a1 a2
  ·rw [show j=m+1 by omega]
omit X in
theorem jT {D:Nat→Bool} {b j:Nat} (hD:D j=false) (h1:b∉(R j).wr) (h2:¬((R j).lo≤b∧b<(R j).hi)):∀m,Cn H R (ins D j) m b=Cn H R D m b
 |0=>rfl
 |m+1=>by
  simp only [Cn];rw [jT hD h1 h2 m];by_cases e:m=j
  ·subst e;rw [if_neg (by rintro ⟨_,q⟩;exact q.elim h1 h2),if_neg (by rintro ⟨q,_⟩;rw [hD] at q;cases q)]
  ·simp [ins,e]
omit X in
theorem bu {D:Nat→Bool} {b j m:Nat} (hjm:j<m) (h1:b∈(R j).wr∨((R j).lo≤b∧b<(R j).hi)) (h2:∀i,j<i→i<m→D i=true→b∉(R i).wr∧¬((R i).lo≤b∧b<(R i).hi)) :
  Cn H R (ins D j) m b=(H (j+1)).blk.get b:=by
 rw [MT (j:=j+1) hjm fun i a1 a2 hD=>h2 i a1 a2 (by simpa [ins,show i≠j by omega] using hD)]
 simp only [Cn];rw [if_pos ⟨by simp [ins],h1⟩]
theorem B5.tput {j:Nat} (hj:j<n) {t:Tmp} (r:(R j).dst≠some t):(Tm (j+1)).get t=(Tm j).get t:=by
 obtain ⟨o,_,g⟩:=X.good j hj;have l:=g.put;rw [g.dst] at r;unfold Ei at l;split at l
 ·rename_i d C;split at l
  ·simp only [Option.some.injEq] at l;rw [←l,T.get_set,if_neg]
   rintro rfl;exact r C
  ·cases l
 ·simp only [Option.some.injEq] at l;rw [l]
theorem B5.tn_text {D:Nat→Bool} {t:Tmp}:∀{m:Nat},m≤n→(∀i,i<m→D i=false→(R i).dst≠some t)→Tn Tm R D m t=(Tm m).get t
 |0,_,_=>rfl
 |m+1,r,h=>by
  simp only [Tn];by_cases l:D m=true∧(R m).dst=some t
  ·rw [if_pos l]
  ·rw [if_neg l,B5.tn_text (m:=m) (by omega) fun i hi=>h i (by omega)]
   refine (X.tput (by omega) ?_).symm
   cases hD:D m with
   |false=>exact h m (by omega) hD
   |true=>exact fun q=>l ⟨hD,q⟩
omit X in
theorem M4 {D:Nat→Bool} {t:Tmp} {j:Nat}:∀{m:Nat},j≤m→(∀i,j≤i→i<m→D i=true→(R i).dst≠some t)→Tn Tm R D m t=Tn Tm R D j t
 |0,hj,_=>by rw [Nat.le_zero.1 hj]
 |m+1,hj,h=>by
  rcases Nat.lt_or_ge j (m+1) with hlt|hge
  ·simp only [Tn];rw [if_neg,M4 (by omega) fun i h1 h2=>h i h1 (by omega)]
   rintro ⟨hD,q⟩
   exact h m (by omega) (by omega) hD q
  ·rw [show j=m+1 by omega]
omit X in
theorem dw {D:Nat→Bool} {t:Tmp} {j:Nat} (hD:D j=false) (h1:(R j).dst≠some t):∀m,Tn Tm R (ins D j) m t=Tn Tm R D m t
 |0=>rfl
 |m+1=>by
  simp only [Tn];rw [dw hD h1 m];by_cases e:m=j
  ·subst e;rw [if_neg (by rintro ⟨_,q⟩;exact h1 q),if_neg (by rintro ⟨q,_⟩;rw [hD] at q;cases q)]
  ·simp [ins,e]
omit X in
theorem b8 {D:Nat→Bool} {t:Tmp} {j m:Nat} (hjm:j<m) (h1:(R j).dst=some t) (h2:∀i,j<i→i<m→D i=true→(R i).dst≠some t):Tn Tm R (ins D j) m t=(Tm (j+1)).get t:=by
 rw [M4 (j:=j+1) hjm fun i a1 a2 hD=>h2 i a1 a2 (by simpa [ins,show i≠j by omega] using hD)]
 simp only [Tn];rw [if_pos ⟨by simp [ins],h1⟩]
end
end Go.AE
namespace Go.AE
variable [Gl:AH]
variable [U:Unk]
theorem HR.weaken {ρ:Ren} {g l:Nat→Option Ab} {w:World} (h:HR ρ g w) (t:∀b x,ρ b≠none→l b=some x→g b=some x):HR ρ l w:=by
 refine ⟨h.lt,fun b base x j i=>h.blk b base x j (t b x (by rw [j];exact Option.some_ne_none _) i),fun b C base base' I j r J h2=>h.apart b C base base' I j r ?_ ?_,h.imm,fun k arr b base hk j hl=>h.off k arr b base hk j ?_,h.glob⟩
 ·cases i:l b with
  |none=>exact absurd i J
  |some x=>rw [t b x (by rw [j];exact Option.some_ne_none _) i];exact Option.some_ne_none _
 ·cases i:l C with
  |none=>exact absurd i h2
  |some x=>rw [t C x (by rw [r];exact Option.some_ne_none _) i];exact Option.some_ne_none _
 ·cases i:l b with
  |none=>exact absurd i hl
  |some x=>rw [t b x (by rw [j];exact Option.some_ne_none _) i];exact Option.some_ne_none _
structure Inv (nt:Nat) (H:Nat→Aa) (Tm:Nat→T AV) (R:Nat→Rc) (n M:Nat) (ρ0:Ren) (w0:World) (D:Nat→Bool) (ρ:Ren) (tm:Array Value) (w:World):Prop where
 sub:∀j,D j=true→j<n
 closed:∀j,D j=true→∀i,(R j).mask.testBit i=true→D i=true
 size:tm.size=nt
 tmp:∀t x,Tn Tm R D n t=some x→VR ρ x (tm.getD t undef)
 heap:HR ρ (Cn H R D n) w
 free:∀b,(H 0).nx≤b→b<M→ρ b≠none→∃j,D j=true∧(R j).lo≤b∧b<(R j).hi
 le:ρ0.le ρ
 calm:GE w0 w
 new:∀b base,ρ b=some base→ρ0 b=some base∨((H 0).nx≤b∧b<(H n).nx∧(w0.heap.size≤base.cb∨∃b0 base0,ρ0 b0=some base0∧(H 0).blk.get b0≠none∧base0.cb=base.cb))
 kept:∀k,k<w0.heap.size→(∀b base,ρ0 b=some base→(H 0).blk.get b≠none→base.cb≠k)→w.heap[k]?=w0.heap[k]?
 imm:∀k arr,ρ.imm k=some arr→ρ0.imm k=some arr∨w0.heap.size≤k∨∃b0 base0,ρ0 b0=some base0∧(H 0).blk.get b0≠none∧base0.cb=k
section
variable {E:Env} {callF:Ask→Aa→Option (Bool×AV×Aa)} {all:Array Oper} {nt:Nat} {H:Nat→Aa} {Tm:Nat→T AV} {R:Nat→Rc} {Dd:Nat→Did} {n M:Nat}
 {ρ0 ρ:Ren} {w0 w:World} {tm:Array Value} {D:Nat→Bool} (X:B5 E callF all nt H Tm R Dd n)
include X
theorem B5.live {b:Nat} (l:b<(H 0).nx):∀{j:Nat},j≤n→(H j).blk.get b≠none→(H 0).blk.get b≠none
 |0,_,h=>h
 |j+1,r,h=>by
  obtain ⟨o,_,g⟩:=X.good j (by omega)
  rw [g.heap] at h;have:=X.mono (i:=0) (j:=j) (by omega) (by omega)
  rcases GB (X.wfAt (by omega)) g.tx.nx h with h|h
  ·exact B5.live l (j:=j) (by omega) h
  ·omega
theorem B5.cn_live {b:Nat} (i:b<(H 0).nx):∀{m:Nat},m≤n→Cn H R D m b≠none→(H 0).blk.get b≠none
 |0,_,h=>h
 |m+1,j,h=>by
  simp only [Cn] at h;split at h
  ·exact X.live i (by omega) h
  ·exact B5.cn_live i (m:=m) (by omega) h
theorem B5.disj {i j b:Nat} (hi:i<n) (l:j<n) (r:(R i).lo≤b∧b<(R i).hi) (t:(R j).lo≤b∧b<(R j).hi):i=j:=by
 rcases Nat.lt_trichotomy i j with h|h|h
 ·have:=X.mono (i:=i+1) (j:=j) (by omega) (by omega)
  have a:=X.hi hi;have c:=X.lo l;omega
 ·exact h
 ·have:=X.mono (i:=j+1) (j:=i) (by omega) (by omega)
  have a:=X.hi l;have c:=X.lo hi;omega
theorem B5.agree (I:Inv nt H Tm R n M ρ0 w0 D ρ tm w) (hM:(H n).nx≤M) {j:Nat} (hj:j<n) (hD:D j=false) (J:∀i,(R j).mask.testBit i=true→D i=true) {b:Nat} {x:Ab} (hb:ρ b≠none)
  (hx:(part (H j) (Dd j).fp).blk.get b=some x):Cn H R D n b=some x:=by
 obtain ⟨o,ho,g⟩:=X.good j hj
 have C:(H j).blk.get b=some x∧(∀l,(R j).fp=some l→b∈l):=by
  rw [g.fp];cases r:(Dd j).fp with
  |none=>rw [r] at hx;exact ⟨hx,(fun l hl=>by cases hl)⟩
  |some av=>
   rw [r] at hx;rcases Dp (H j) av b with q|⟨q1,q2⟩
   ·simp only [part] at hx;rw [q] at hx;cases hx
   ·exact ⟨q2▸hx,fun l hl=>by cases hl;exact q1⟩
 have a2:b<(H j).nx:=by
  rcases Nat.lt_or_ge b (H j).nx with h|h
  ·exact h
  ·rw [X.wfAt (by omega) b h] at C;cases C.1
 have al:∀i,i<n→i≠j→(i<j→(R j).mask.testBit i=false)→(j<i→(R i).mask.testBit j=false)→b∉(R i).wr:=by
  intro i hi an h1 h2 hm;rcases Nat.lt_or_ge i j with h|h
  ·have a:=X.apart h hj (h1 h);cases r:(R j).fp with
   |none=>rw [a.fp1n r] at hm;cases hm
   |some l=>exact a.fp1 b hm l r (C.2 l r)
  ·have a:=X.apart (show j<i by omega) hi (h2 (by omega))
   cases r:(R j).fp with
   |none=>rw [a.fp2n r] at hm;cases hm
   |some l=>exact a.fp2 b hm l r (C.2 l r)
 have hC:Cn H R D n b=Cn H R D j b:=by
  refine MT (by omega) fun i h1 h2 t=>?_
  have an:i≠j:=by rintro rfl;rw [hD] at t;cases t
  refine ⟨al i h2 an (fun h=>by omega) fun h=>?_,?_⟩
  ·cases hb:(R i).mask.testBit j with
   |false=>rfl
   |true=>rw [I.closed i t j hb] at hD;cases hD
  ·have:=X.mono (i:=j) (j:=i) h1 (by omega)
   have:=X.lo h2;omega
 rw [hC,X.cn_text (by omega) fun i hi t=>?_,C.1]
 refine ⟨al i (by omega) (by omega) (fun h=>?_) (fun h=>by omega),fun ar=>?_⟩
 ·cases hb:(R j).mask.testBit i with
  |false=>rfl
  |true=>rw [J i hb] at t;cases t
 ·have a6:=X.lo (show i<n by omega)
  have h0:=X.mono (i:=0) (j:=i) (by omega) (by omega)
  have h1:=X.mono (i:=j) (j:=n) (by omega) (by omega)
  obtain ⟨j',ab,a1⟩:=I.free b (by omega) (by omega) hb
  have:=X.disj (show i<n by omega) (I.sub j' ab) ar a1
  subst this;rw [t] at ab;cases ab
theorem B5.tagree (I:Inv nt H Tm R n M ρ0 w0 D ρ tm w) {j:Nat} (hj:j<n) (C:D j=false) (r:∀i,(R j).mask.testBit i=true→D i=true):TR ρ nt (A0 (Tm j) (R j).looks) tm:=by
 refine ⟨I.size,fun t x hx=>?_⟩
 obtain ⟨hl,y,hy,rfl⟩:=Dt _ _ _ _ hx;refine Rn (I.tmp t y ?_)
 have hT:Tn Tm R D n t=Tn Tm R D j t:=by
  refine M4 (by omega) fun i h1 h2 l J=>?_
  have ab:i≠j:=by rintro rfl;rw [C] at l;cases l
  have a:=X.apart (show j<i by omega) h2 (by
   cases hb:(R i).mask.testBit j with
   |false=>rfl
   |true=>rw [I.closed i l j hb] at C;cases C)
  exact a.look2 t J hl
 rw [hT,X.tn_text (by omega) fun i hi l J=>?_,hy]
 have a:=X.apart hi hj (by
  cases hb:(R j).mask.testBit i with
  |false=>rfl
  |true=>rw [r i hb] at l;cases l)
 exact a.look1 t J hl
end
end Go.AE
namespace Go.AE
variable [Gl:AH]
variable [U:Unk]
section
variable {E:Env} {callF:Ask→Aa→Option (Bool×AV×Aa)} {all:Array Oper} {nt:Nat} {H:Nat→Aa} {Tm:Nat→T AV} {R:Nat→Rc} {Dd:Nat→Did} {n M:Nat}
 {ρ0 ρ σ:Ren} {w0 w w':World} {tm:Array Value} {D:Nat→Bool} (X:B5 E callF all nt H Tm R Dd n)
include X
theorem B5.after (I:Inv nt H Tm R n M ρ0 w0 D ρ tm w) (hM:(H n).nx≤M) {j:Nat} (hj:j<n) (hD:D j=false) (bm:∀i,(R j).mask.testBit i=true→D i=true)
  (q3:HR σ (Dd j).g.blk.get w') (q4:Ext ρ σ (part (H j) (Dd j).fp) (Dd j).g w w'):HR σ (Cn H R (ins D j) n) w':=by
 obtain ⟨o,ho,g⟩:=X.good j hj;have ar:(part (H j) (Dd j).fp).nx=(H j).nx:=by cases (Dd j).fp<;>rfl
 have b1:(part (H j) (Dd j).fp).log=[]:=by cases (Dd j).fp<;>rfl
 obtain ⟨l,b3,c2⟩:=q4.log;rw [b1,List.append_nil] at b3;have bn:∀b x,ρ b≠none→(part (H j) (Dd j).fp).blk.get b=some x→Cn H R D n b=some x:=fun b x C hx=>X.agree I hM hj hD bm C hx
 have bs:∀b,(b∈(R j).wr∨((R j).lo≤b∧b<(R j).hi))→∀i,j<i→i<n→D i=true→b∉(R i).wr∧¬((R i).lo≤b∧b<(R i).hi):=by
  intro b C i hi b4 c3
  have a:=X.apart hi b4 (by
   cases C:(R i).mask.testBit j with
   |false=>rfl
   |true=>rw [I.closed i c3 j C] at hD;cases hD)
  have h1:=X.mono (i:=j+1) (j:=i) (by omega) (by omega)
  have h2:=X.hi hj;have h3:=X.lo b4;have h4:=X.lo hj;have h5:=X.le hj;rcases C with C|C
  ·have:=X.wr_lt hj C;exact ⟨a.wr b C,fun h=>by omega⟩
  ·exact ⟨fun h=>a.out b h C,fun h=>by omega⟩
 have al:∀b x,Cn H R (ins D j) n b=some x→((b∈(R j).wr∨((R j).lo≤b∧b<(R j).hi))∧(Dd j).g.blk.get b=some x)∨((b∉(R j).wr∧¬((R j).lo≤b∧b<(R j).hi))∧Cn H R D n b=some x):=by
  intro b x hx;by_cases C:b∈(R j).wr∨((R j).lo≤b∧b<(R j).hi)
  ·refine .inl ⟨C,?_⟩;rw [bu hj C (bs b C),g.heap] at hx;rcases C with C|C
   ·rw [g.wr] at C;rcases GV C with q|⟨_,q⟩
    ·rw [q] at hx;cases hx
    ·rw [←q];exact hx
   ·rw [g.lo,g.hi] at C;rw [HX (X.wfAt (by omega)) g.tx.nx C.1 C.2] at hx
    exact hx
  ·have b5:b∉(R j).wr:=fun q=>C (.inl q)
   have b6:¬((R j).lo≤b∧b<(R j).hi):=fun q=>C (.inr q)
   rw [jT hD b5 b6] at hx;exact .inr ⟨⟨b5,b6⟩,hx⟩
 have ab:∀b base x,(b∉(R j).wr∧¬((R j).lo≤b∧b<(R j).hi))→σ b=some base→Cn H R D n b=some x→ρ b=some base∧((part (H j) (Dd j).fp).blk.get b≠none→(Dd j).g.blk.get b=some x):=by
  intro b base x C hs hx
  have J:ρ b=some base:=by
   rcases q4.new b base hs with h|⟨h1,h2,_⟩
   ·exact h
   ·rw [ar] at h1;exact absurd ⟨g.lo▸h1,g.hi▸h2⟩ C.2
  refine ⟨J,fun hp=>?_⟩
  cases hy:(part (H j) (Dd j).fp).blk.get b with
  |none=>exact absurd hy hp
  |some y=>
   have:=bn b y (by rw [J];exact Option.some_ne_none _) hy
   rw [hx] at this;cases this
   have cc:b<(H j).nx:=by
    rcases Nat.lt_or_ge b (H j).nx with h|h
    ·exact h
    ·have:=MK (X.wfAt (j:=j) (by omega)) (Dd j).fp b (by rw [ar];exact h)
     rw [this] at hy;cases hy
   rw [c2 b ?_ (.inl (by rw [ar];exact cc)),hy]
   intro hm;refine C.1 ?_;rw [g.wr,Ch,b3];exact ⟨hm,cc⟩
 refine ⟨q3.lt,fun b base x hs hx=>?_,fun b b' base r an hs av h1 h2=>?_,q3.imm,fun k arr b base hk hs hl=>?_,q3.glob⟩
 ·rcases al b x hx with ⟨_,hg⟩|⟨C,hc⟩
  ·exact q3.blk b base x hs hg
  ·obtain ⟨J,a1⟩:=ab b base x C hs hc;by_cases hp:(part (H j) (Dd j).fp).blk.get b=none
   ·have hk:=q4.kept base.cb (I.heap.lt b base J) (fun b0 t a2 a6=>by
     have an:b0≠b:=by rintro rfl;exact a6 hp
     cases hy:(part (H j) (Dd j).fp).blk.get b0 with
     |none=>exact absurd hy a6
     |some y=>
      have:=bn b0 y (by rw [a2];exact Option.some_ne_none _) hy
      exact I.heap.apart b0 b t base an a2 J (by rw [this];exact Option.some_ne_none _) (by rw [hc];exact Option.some_ne_none _))
    rw [hk];exact (I.heap.blk b base x J hc).mono q4.le
   ·exact q3.blk b base x hs (a1 hp)
 ·have key:∀b b' base r,b≠b'→σ b=some base→σ b'=some r→Cn H R (ins D j) n b≠none→Cn H R (ins D j) n b'≠none→(Dd j).g.blk.get b=none→base.cb≠r.cb:=by
   intro b b' base r an hs av h1 h2 cd;cases hx:Cn H R (ins D j) n b with
   |none=>exact absurd hx h1
   |some x=>
    cases cf:Cn H R (ins D j) n b' with
    |none=>exact absurd cf h2
    |some x'=>
     rcases al b x hx with ⟨_,hg⟩|⟨C,hc⟩
     ·rw [cd] at hg;cases hg
     ·obtain ⟨J,a1⟩:=ab b base x C hs hc
      have hp:(part (H j) (Dd j).fp).blk.get b=none:=by
       cases hp:(part (H j) (Dd j).fp).blk.get b with
       |none=>rfl
       |some y=>have:=a1 (by rw [hp];exact Option.some_ne_none _);rw [cd] at this;cases this
      have a7:Cn H R D n b≠none:=by rw [hc];exact Option.some_ne_none _
      have ch:∀b0 t,ρ b0=some t→(part (H j) (Dd j).fp).blk.get b0≠none→base.cb≠t.cb:=by
       intro b0 t a2 a6;have bd:b≠b0:=by rintro rfl;exact a6 hp
       cases hy:(part (H j) (Dd j).fp).blk.get b0 with
       |none=>exact absurd hy a6
       |some y=>
        have:=bn b0 y (by rw [a2];exact Option.some_ne_none _) hy
        exact I.heap.apart b b0 base t bd J a2 a7 (by rw [this];exact Option.some_ne_none _)
      rcases al b' x' cf with ⟨cm,bv⟩|⟨cm,cv⟩
      ·rcases q4.new b' r av with h|⟨_,_,h|⟨b0,t,e1,e2,e3⟩⟩
       ·rcases q4.live b' (by rw [bv];exact Option.some_ne_none _) with hl|⟨hl,c4⟩
        ·exact ch b' r h hl
        ·
         rw [ar] at hl;have c6:=X.lo hj;have h0:=X.mono (i:=0) (j:=j) (by omega) (by omega)
         have h1:=X.mono (i:=j+1) (j:=n) (by omega) (by omega)
         have h2:=X.hi hj;rw [g.hi] at h2;obtain ⟨j',b2,c5⟩:=I.free b' (by omega) (by omega) (by rw [h];exact Option.some_ne_none _)
         have:=X.disj hj (I.sub j' b2) ⟨by omega,by rw [g.hi];exact c4⟩ c5
         subst this;rw [hD] at b2;cases b2
       ·have:=I.heap.lt b base J;omega
       ·rw [←e3];exact ch b0 t e1 e2
      ·obtain ⟨c1,_⟩:=ab b' r x' cm av cv;exact I.heap.apart b b' base r an J c1 a7 (by rw [cv];exact Option.some_ne_none _)
  by_cases hg:(Dd j).g.blk.get b=none
  ·exact key b b' base r an hs av h1 h2 hg
  ·by_cases bv:(Dd j).g.blk.get b'=none
   ·exact fun e=>key b' b r base (Ne.symm an) av hs h2 h1 bv e.symm
   ·exact q3.apart b b' base r an hs av hg bv
 ·cases hx:Cn H R (ins D j) n b with
  |none=>exact absurd hx hl
  |some x=>
   rcases al b x hx with ⟨_,hg⟩|⟨C,hc⟩
   ·exact q3.off k arr b base hk hs (by rw [hg];exact Option.some_ne_none _)
   ·obtain ⟨J,a1⟩:=ab b base x C hs hc;have a7:Cn H R D n b≠none:=by rw [hc];exact Option.some_ne_none _
    by_cases hp:(part (H j) (Dd j).fp).blk.get b=none
    ·rcases q4.imm k arr hk with h|h|⟨b0,t,e1,e2,e3⟩
     ·exact I.heap.off k arr b base h J a7
     ·have:=I.heap.lt b base J;omega
     ·have bd:b≠b0:=by rintro rfl;exact e2 hp
      cases hy:(part (H j) (Dd j).fp).blk.get b0 with
      |none=>exact absurd hy e2
      |some y=>
       have:=bn b0 y (by rw [e1];exact Option.some_ne_none _) hy
       rw [←e3];exact I.heap.apart b b0 base t bd J e1 a7 (by rw [this];exact Option.some_ne_none _)
    ·exact q3.off k arr b base hk hs (by rw [a1 hp];exact Option.some_ne_none _)
theorem B5.step (I:Inv nt H Tm R n M ρ0 w0 D ρ tm w) (hM:(H n).nx≤M) (ar:AJ ρ0 (H 0).nx M) {j:Nat} (hj:j<n) (hD:D j=false) (C:∀i,(R j).mask.testBit i=true→D i=true) {v':Value}
  (q2:VR σ (Dd j).v v') (q3:HR σ (Dd j).g.blk.get w') (q4:Ext ρ σ (part (H j) (Dd j).fp) (Dd j).g w w'):Inv nt H Tm R n M ρ0 w0 (ins D j) σ (Jj tm (R j).dst v') w':=by
 obtain ⟨o,ho,g⟩:=X.good j hj;have a6:(part (H j) (Dd j).fp).nx=(H j).nx:=by cases (Dd j).fp<;>rfl
 have b2:=X.lo hj;have bd:=X.hi hj;have b3:=X.mono (i:=0) (j:=j) (by omega) (by omega)
 have b4:=X.mono (i:=j+1) (j:=n) (by omega) (by omega)
 have ab:∀J l,ρ J=some l→(part (H j) (Dd j).fp).blk.get J≠none→w0.heap.size≤l.cb∨∃b1 r,ρ0 b1=some r∧(H 0).blk.get b1≠none∧r.cb=l.cb:=by
  intro J l al av;cases hy:(part (H j) (Dd j).fp).blk.get J with
  |none=>exact absurd hy av
  |some y=>
   have hc:=X.agree I hM hj hD C (by rw [al];exact Option.some_ne_none _) hy
   rcases I.new J l al with h|⟨_,_,h⟩
   ·right;refine ⟨J,l,h,?_,rfl⟩
    have an:J<(H 0).nx:=by
     rcases Nat.lt_or_ge J (H 0).nx with q|q
     ·exact q
     ·have an:J<(H j).nx:=by
       rcases Nat.lt_or_ge J (H j).nx with h|h
       ·exact h
       ·have:=MK (X.wfAt (j:=j) (by omega)) (Dd j).fp J (by rw [a6];exact h)
        rw [this] at hy;cases hy
      have:=X.le hj;rw [ar J q (by omega)] at h;cases h
    exact X.cn_live (D:=D) an (Nat.le_refl n) (by rw [hc];exact Option.some_ne_none _)
   ·exact h
 refine ⟨?_,?_,?_,?_,X.after I hM hj hD C q3 q4,?_,I.le.trans q4.le,I.calm.trans q4.calm,?_,?_,?_⟩
 ·intro i hi;by_cases e:i=j
  ·omega
  ·exact I.sub i (by simpa [ins,e] using hi)
 ·intro i hi k hk;by_cases e:i=j
  ·subst e;have:=C k hk;by_cases e2:k=i
   ·simp [ins,e2]
   ·simpa [ins,e2] using this
  ·have:=I.closed i (by simpa [ins,e] using hi) k hk
   by_cases e2:k=j
   ·simp [ins,e2]
   ·simpa [ins,e2] using this
 ·unfold Jj;split<;>simp [I.size]
 ·intro t x hx;by_cases hd:(R j).dst=some t
  ·rw [b8 hj hd (fun i h1 h2 bm bn=>by
    have a:=X.apart h1 h2 (by
     cases hb:(R i).mask.testBit j with
     |false=>rfl
     |true=>rw [I.closed i bm j hb] at hD;cases hD)
    exact a.dst t hd bn)] at hx
   have hp:=g.put;rw [g.dst] at hd;rw [hd] at hp;simp only [Ei] at hp;cases hb:Nat.blt t nt with
   |false=>rw [hb] at hp;cases hp
   |true=>
    rw [hb] at hp;simp only [Option.some.injEq] at hp;rw [←hp,T.get_set,if_pos rfl] at hx;cases hx;have an:t<tm.size:=by rw [I.size];simpa [Nat.blt_eq] using hb
    rw [g.dst,hd];simpa [Jj,Array.getD_eq_getD_getElem?,an] using q2
  ·rw [dw hD hd] at hx;have:=(I.tmp t x hx).mono q4.le;unfold Jj;split
   ·rename_i d bs;have bv:d≠t:=by rintro rfl;exact hd bs
    simpa [Array.getD_eq_getD_getElem?,Array.getElem?_setIfInBounds_ne bv] using this
   ·exact this
 ·intro b h1 h2 hb;cases hs:σ b with
  |none=>exact absurd hs hb
  |some base=>
   rcases q4.new b base hs with h|⟨a1,a2,_⟩
   ·obtain ⟨i,hi,hr⟩:=I.free b h1 h2 (by rw [h];exact Option.some_ne_none _)
    refine ⟨i,?_,hr⟩;by_cases e:i=j
    ·simp [ins,e]
    ·simpa [ins,e] using hi
   ·exact ⟨j,by simp [ins],by omega,by rw [g.hi];exact a2⟩
 ·intro b base hs;rcases q4.new b base hs with h|⟨a1,a2,a3⟩
  ·exact I.new b base h
  ·right;rw [g.hi] at bd;refine ⟨by omega,by omega,?_⟩
   rcases a3 with a3|⟨J,l,e1,e2,e3⟩
   ·left;have:=I.calm.size;omega
   ·rw [←e3];exact ab J l e1 e2
 ·intro k hk a7
  rw [q4.kept k (by have:=I.calm.size;omega) (fun J l al av=>by
   rcases ab J l al av with h|⟨b1,r,e1,e2,e3⟩
   ·omega
   ·rw [←e3];exact a7 b1 r e1 e2)]
  exact I.kept k hk a7
 ·intro k arr hk;rcases q4.imm k arr hk with h|h|⟨J,l,e1,e2,e3⟩
  ·exact I.imm k arr h
  ·right;left;have:=I.calm.size;omega
  ·right;rcases ab J l e1 e2 with h|⟨b1,r,f1,f2,f3⟩
   ·left;omega
   ·right;exact ⟨b1,r,f1,f2,f3.trans e3⟩
end
end Go.AE
namespace Go.AE
variable [Gl:AH]
variable [U:Unk]
theorem K6 {j:Nat}:∀{rest:List Oper} {recs:List Rc},(∀i x,i<j→recs[i]?=some x→x.mask.testBit j=false)→j<recs.length→Fm recs j rest=true→∀o∈rest,∃e∈o.after.toList,Region.binds .any e=true∧j≤e.on
 |[],recs,_,_,_,o,n=>by cases n
 |o::rest,recs,m,q,h,x,c=>by
  simp only [Fm] at h;cases d:BI recs o.after.toList with
  |none=>rw [d] at h;cases h
  |some mask=>
   rw [d] at h;simp only [cV] at h;cases f:mask.testBit j with
   |false=>rw [f] at h;cases h
   |true=>
    rw [f] at h;rcases List.mem_cons.1 c with rfl|c
    ·obtain ⟨e,p,g,y,b,a⟩:=((DG d).2 j).1 f;refine ⟨e,p,g,?_⟩;rcases Nat.lt_or_ge e.on j with k|l
     ·rcases a with a|a
      ·rw [m e.on y k b] at a;cases a
      ·omega
     ·exact l
    ·refine K6 (recs:=recs++[{wr:=[],fp:=none,lo:=0,hi:=0,dst:=none,looks:=[],mask}]) (fun i y hi b=>?_) (by simp;omega) h x c
     rw [List.getElem?_append_left (by omega)] at b
     exact m i y hi b
theorem XQ {E:Env} {b:Ask→Aa→Option (Bool×AV×Aa)} {all:Array Oper} {o:Oper} {t:T AV} {h:Aa} {d:Did} (a:C7 E b all o t h=some d) (c:d.ok=false):d.fp=none:=by
 unfold C7 at a;split at a
 ·cases a
 ·cases a;cases c
 ·split at a
  ·simp only at a;split at a
   ·cases a;cases c
   ·cases a
  ·split at a
   ·split at a
    ·cases a;rfl
    ·cases a
   ·split at a
    ·cases a;rfl
    ·cases a
   ·cases a
section
variable {E:Env} {callF:Ask→Aa→Option (Bool×AV×Aa)} {all:Array Oper} {nt:Nat} {H:Nat→Aa} {Tm:Nat→T AV} {R:Nat→Rc} {Dd:Nat→Did} {n M:Nat}
 {ρ0 ρ σ:Ren} {w0 w w':World} {tm:Array Value} {D:Nat→Bool} (X:B5 E callF all nt H Tm R Dd n)
include X
omit X in
theorem Aum (ht:TR ρ0 nt (Tm 0) tm) (hr:HR ρ0 (H 0).blk.get w0) (hfree:AJ ρ0 (H 0).nx M) (hD:∀i,D i=false):Inv nt H Tm R n M ρ0 w0 D ρ0 tm w0:=by
 have hno:∀i,D i≠true:=fun i h=>by rw [hD i] at h;cases h
 refine ⟨fun j h=>absurd h (hno j),fun j h=>absurd h (hno j),ht.size,fun t x hx=>ht.get t x ?_,hr.weaken fun b x hb hx=>?_,fun b h1 h2 hb=>absurd (hfree b h1 h2) hb,Ren.le_refl _,GE.refl _,fun b base h=>.inl h,fun k hk hno=>rfl,fun k arr h=>.inl h⟩
 ·rw [M4 (j:=0) (Nat.zero_le _) fun i _ _ h=>absurd h (hno i)] at hx;exact hx
 ·rw [MT (j:=0) (Nat.zero_le _) fun i _ _ h=>absurd h (hno i)] at hx;exact hx
theorem B5.logs:∀{j:Nat},j≤n→∃l,(H j).log=l++(H 0).log∧∀b,b∉l→(b<(H 0).nx∨(H j).nx≤b)→(H j).blk.get b=(H 0).blk.get b
 |0,_=>⟨[],rfl,fun _ _ _=>rfl⟩
 |j+1,C=>by
  obtain ⟨l,h1,h2⟩:=B5.logs (j:=j) (by omega)
  obtain ⟨o,_,g⟩:=X.good j (by omega)
  have I:=X.mono (i:=0) (j:=j) (by omega) (by omega)
  have J:=X.lo (show j<n by omega)
  have hh:=X.hi (show j<n by omega)
  have r:=X.le (show j<n by omega)
  refine ⟨(R j).wr++l,?_,fun b hb ho=>?_⟩
  ·rw [g.heap,g.wr,List.append_assoc,←h1];rfl
  ·simp only [List.mem_append,not_or] at hb;rw [X.stay (by omega) hb.1 (by omega),h2 b hb.2 (by omega)]
theorem B5.final (I:Inv nt H Tm R n M ρ0 w0 D ρ tm w) (hD:∀i,i<n→D i=true):TR ρ nt (Tm n) tm∧HR ρ (H n).blk.get w∧Ext ρ0 ρ (H 0) (H n) w0 w:=by
 have hno:∀i,i<n→D i≠false:=fun i hi h=>by rw [hD i hi] at h;cases h
 refine ⟨⟨I.size,fun t x hx=>I.tmp t x ?_⟩,I.heap.weaken fun b x hb hx=>?_,⟨I.le,X.mono (Nat.zero_le _) (Nat.le_refl _),I.new,I.calm,I.kept,X.logs (Nat.le_refl _),fun b hb=>?_,I.imm⟩⟩
 ·rw [X.tn_text (Nat.le_refl _) fun i hi h=>absurd h (hno i hi)];exact hx
 ·rw [X.cn_text (Nat.le_refl _) fun i hi h=>absurd h (hno i hi)];exact hx
 ·rcases Nat.lt_or_ge b (H 0).nx with h|h
  ·exact .inl (X.live h (Nat.le_refl _) hb)
  ·refine .inr ⟨h,?_⟩;rcases Nat.lt_or_ge b (H n).nx with h'|h'
   ·exact h'
   ·exact absurd (X.wfAt (Nat.le_refl _) b h') hb
omit X in
theorem VJ {j:Nat} {o:Oper} (t:Tx E callF all H Tm R Dd j o) {e:Edge} (he:e∈o.after.toList) (hb:Region.binds .any e=true):e.on<j:=by
 obtain ⟨x,hx⟩:=(DG t.mask).1 e he hb;have:=(List.getElem?_eq_some_iff.1 hx).1;simpa using this
omit X in
theorem Zg {j:Nat} {o:Oper} (t:Tx E callF all H Tm R Dd j o) (hcl:∀j,D j=true→∀i,(R j).mask.testBit i=true→D i=true)
  (hon:∀e∈o.after.toList,Region.binds .any e=true→D e.on=true) {i:Nat} (hi:(R j).mask.testBit i=true):D i=true:=by
 obtain ⟨e,he,hb,x,hx,h⟩:=((DG t.mask).2 i).1 hi;have hlt:=VJ t he hb;rw [List.getElem?_map,List.getElem?_range hlt] at hx;simp only [Option.map_some,Option.some.injEq] at hx;subst hx;rcases h with h|h
 ·exact hcl e.on (hon e he hb) i h
 ·rw [h];exact hon e he hb
end
end Go.AE
namespace Go.AE
variable [Gl:AH]
variable [U:Unk]
theorem QX:∀{l:List Bool} {i:Nat},l[i]?=some false→(l.set i true).count true=l.count true+1
 |[],i,h=>by cases h
 |b::l,0,h=>by
  simp only [List.getElem?_cons_zero,Option.some.injEq] at h;subst h;simp
 |b::l,i+1,h=>by
  have:=QX (l:=l) (i:=i) (by simpa using h)
  simp only [List.set_cons_succ,List.count_cons,this];omega
theorem fR {a:Array Bool} {i:Nat} (hi:i<a.size):(fun j=>(a.setIfInBounds i true).getD j false)=ins (fun j=>a.getD j false) i:=by
 funext j
 simp only [ins,Array.getD_eq_getD_getElem?];by_cases e:j=i
 ·subst e;simp [hi]
 ·rw [if_neg e,Array.getElem?_setIfInBounds_ne (Ne.symm e)]
section
variable {E:Env} (hE:OK E) {callF:Ask→Aa→Option (Bool×AV×Aa)} (hF:C8 E callF) {all:Array Oper} {nt:Nat} {H:Nat→Aa} {Tm:Nat→T AV} {R:Nat→Rc} {Dd:Nat→Did} {n M:Nat}
 {ρ0:Ren} {w0:World} {k:List Item} {cs:List Frame} (X:B5 E callF all nt H Tm R Dd n)
include hE hF X
theorem B5.sched (hM:(H n).nx≤M) (b0:AJ ρ0 (H 0).nx M) (c7:n≤all.size)
  (bd:n<all.size→∃o,all[n]?=some o∧Bad E callF all H Tm R Dd n o (all.toList.drop (n+1))) :
  ∀(J t:Nat) (C:Array Bool) (ρ:Ren) (w:World) (c:Frame),c.mode=.run→c.todo=.inRegion all (Region.linearise.go .any all J t C [])::k→C.size=all.size→
   all.size≤J+C.toList.count true→Inv nt H Tm R n M ρ0 w0 (fun i=>C.getD i false) ρ c.tmps w→
   ∃rest σ ar w' D',Inv nt H Tm R n M ρ0 w0 D' σ ar w'∧(∀i,i<n→D' i=true)∧Steps E.P (lone c cs w) (lone {c with tmps:=ar,todo:=.inRegion all rest::k} cs w')∧
    (n=all.size→rest=[])∧(n<all.size→∃r,rest=n::r):=by
 have c2:∀j,j<all.size→j≤n→∃o,all[j]?=some o∧Tx E callF all H Tm R Dd j o:=by
  intro j hj c8;rcases Nat.lt_or_ge j n with h|h
  ·obtain ⟨o,h1,h2⟩:=X.good j h;exact ⟨o,h1,h2.tx⟩
  ·have:j=n:=by omega
   subst this;obtain ⟨o,h1,h2⟩:=bd hj;exact ⟨o,h1,h2.tx⟩
 have bs:∀(C:Array Bool) (ρ:Ren) (w:World) (c:Frame),C.size=all.size→c.todo=.inRegion all []::k→Inv nt H Tm R n M ρ0 w0 (fun i=>C.getD i false) ρ c.tmps w→(∀i,i<all.size→C.getD i false=true)→
   ∃rest σ ar w' D',Inv nt H Tm R n M ρ0 w0 D' σ ar w'∧(∀i,i<n→D' i=true)∧Steps E.P (lone c cs w) (lone {c with tmps:=ar,todo:=.inRegion all rest::k} cs w')∧
    (n=all.size→rest=[])∧(n<all.size→∃r,rest=n::r):=by
  intro C ρ w c a6 ht I bv;refine ⟨[],ρ,c.tmps,w,_,I,fun i hi=>bv i (by omega),?_,fun _=>rfl,fun h=>?_⟩
  ·rw [←ht];exact Steps.refl _ _
  ·exact absurd (I.sub n (bv n h)) (Nat.lt_irrefl _)
 intro J
 induction J with
 |zero=>
  intro t C ρ w c hm ht a6 b4 I;refine bs C ρ w c a6 (by simpa [Region.linearise.go] using ht) I fun i hi=>?_
  have b5:C.toList.count true=C.toList.length:=by
   have:=List.count_le_length (a:=true) (l:=C.toList);have e:C.toList.length=C.size:=Array.length_toList;omega
  have:=(List.count_eq_length.1 b5) (C[i]'(by omega)) (by simp)
  rw [Array.getD_eq_getD_getElem?];simp [a6,hi,←this]
 |succ J ih=>
  intro t C ρ w c hm ht a6 b4 I
  have b6:Region.linearise.go .any all (J+1) t C []=(match (Region.ready .any all C)[t%(Region.ready .any all C).length]? with
   |some i=>Region.linearise.go .any all J (t/(Region.ready .any all C).length) (C.setIfInBounds i true) [i]
   |none=>[].reverse):=rfl
  cases hi:(Region.ready .any all C)[t%(Region.ready .any all C).length]? with
  |none=>
   have cc:Region.ready .any all C=[]:=by
    cases hr:Region.ready .any all C with
    |nil=>rfl
    |cons x xs=>
     rw [hr] at hi;have b1:t%(x::xs).length<(x::xs).length:=Nat.mod_lt _ (by simp)
     simp at hi;simp at b1;omega
   rw [b6,hi] at ht;refine bs C ρ w c a6 ht I fun i=>?_
   induction i using Nat.strongRecOn with
   |ind i cd=>
    intro a7;cases cf:C.getD i false with
    |true=>rfl
    |false=>
     exfalso
     have ab:i≤n:=by
      rcases Nat.lt_or_ge n i with h|h
      ·exact absurd (I.sub n (cd n h (by omega))) (Nat.lt_irrefl _)
      ·exact h
     obtain ⟨o,ho,tx⟩:=c2 i a7 ab
     have:i∈Region.ready .any all C:=by
      unfold Region.ready;rw [List.mem_filter];refine ⟨by simpa using a7,?_⟩
      have h1:C.getD i true=false:=by
       rw [Array.getD_eq_getD_getElem?] at cf ⊢;have:i<C.size:=by omega
       simpa [this] using cf
      simp only [h1,ho,Option.map_some,Option.getD_some,Bool.not_false,Bool.true_and];rw [Array.all_eq_true_iff_forall_mem];intro e he;cases hb:Region.binds .any e with
      |false=>rfl
      |true=>
       have b1:=VJ tx (by simpa using he) hb
       simp [cd e.on b1 (by omega)]
     rw [cc] at this;cases this
  |some i=>
   have bm:i∈Region.ready .any all C:=List.mem_of_getElem? hi;rw [b6,hi] at ht;simp only at ht;rw [linearise_go_acc,List.reverse_singleton,List.singleton_append] at ht;unfold Region.ready at bm;rw [List.mem_filter] at bm;obtain ⟨a7,bn⟩:=bm;simp only [List.mem_range] at a7;simp only [Bool.and_eq_true,Bool.not_eq_true'] at bn;obtain ⟨ch,al⟩:=bn
   have av:C.getD i false=false:=by
    rw [Array.getD_eq_getD_getElem?] at ch ⊢;have:i<C.size:=by omega
    simpa [this] using ch
   have b2:∀o,all[i]?=some o→∀e∈o.after.toList,Region.binds .any e=true→C.getD e.on false=true:=by
    intro o ho e he hb;rw [ho] at al;simp only [Option.map_some,Option.getD_some] at al;rw [Array.all_eq_true_iff_forall_mem] at al;have:=al e (by simpa using he)
    simpa [hb] using this
   rcases Nat.lt_trichotomy i n with ab|ab|ab
   ·obtain ⟨o,ho,g⟩:=X.good i ab;have an:∀q,(R i).mask.testBit q=true→(fun i=>C.getD i false) q=true:=fun q hq=>Zg (D:=fun i=>C.getD i false) g.tx I.closed (b2 o ho) hq
    have hD:(fun i=>C.getD i false) i=false:=av
    have cm:=X.tagree I ab hD an;rw [g.looks] at cm;have c9:=X.lo ab;have c3:=X.hi ab;have dd:=X.mono (i:=0) (j:=i) (by omega) (by omega)
    have df:=X.mono (i:=i+1) (j:=n) (by omega) (by omega)
    rw [g.hi] at c3
    have c4:AJ ρ (H i).nx (Dd i).g.nx:=by
     intro b h1 h2;cases hb:ρ b with
     |none=>rfl
     |some base=>
      obtain ⟨j',b3,c5⟩:=I.free b (by omega) (by omega) (by rw [hb];exact Option.some_ne_none _)
      have:=X.disj ab (I.sub j' b3) ⟨by omega,by rw [g.hi];exact h2⟩ c5
      subst this;rw [av] at b3;cases b3
    obtain ⟨σ,v',w',q1,q2,q3,q4⟩:=Rd hE hF (cs:=cs) g.tx.did (X.wfAt (by omega)) hm ht ho cm (I.heap.weaken fun b x hb hx=>X.agree I hM ab hD an hb hx) c4
    have I':=X.step I hM b0 ab hD an q2 q3 q4;rw [←fR (by omega)] at I'
    rw [g.ok] at q1
    have cv:c.finish v'={c with tmps:=Jj c.tmps (R i).dst v',todo:=.inRegion all (Region.linearise.go .any all J (t/(Region.ready .any all C).length) (C.setIfInBounds i true) [])::k}:=by
     simp only [Frame.finish,ht,ho,Option.bind_some,Jj,g.dst];cases o.dst<;>rfl
    simp only [B4] at q1;rw [cv] at q1
    obtain ⟨rest,τ,ar,w2,D',r1,r2,r3,r4,r5⟩:=ih _ (C.setIfInBounds i true) σ w' {c with tmps:=Jj c.tmps (R i).dst v',todo:=.inRegion all (Region.linearise.go .any all J (t/(Region.ready .any all C).length) (C.setIfInBounds i true) [])::k} hm rfl (by simp [a6]) (by
     rw [Array.toList_setIfInBounds,QX]
     ·omega
     ·have:i<C.size:=by omega
      rw [Array.getD_eq_getD_getElem?] at av;simpa [this] using av) I'
    exact ⟨rest,τ,ar,w2,D',r1,r2,Steps.trans q1 r3,r4,r5⟩
   ·subst ab;obtain ⟨o,ho,b⟩:=bd a7;refine ⟨i::Region.linearise.go .any all J (t/(Region.ready .any all C).length) (C.setIfInBounds i true) [],ρ,c.tmps,w,_,I,fun q hq=>?_,?_,fun h=>by omega,fun _=>⟨_,rfl⟩⟩
    ·refine Zg (D:=fun i=>C.getD i false) b.tx I.closed (b2 o ho) ?_
     have:(R i).mask=2^i-1:=by have:=b.all;omega
     rw [this,Nat.testBit_two_pow_sub_one];simpa using hq
    ·rw [←ht];exact Steps.refl _ _
   ·exfalso
    obtain ⟨o,ho,b⟩:=bd (by omega)
    obtain ⟨recs,a1,a2,a3⟩:=b.after;have c6:all[i]?=some all[i]:=by simp [a7]
    have:=K6 (recs:=recs++[{wr:=[],fp:=none,lo:=0,hi:=0,dst:=none,looks:=[],mask:=(R n).mask}]) (fun q x hq hx=>?_) (by simp [a1]) a3 all[i] ?_
    ·obtain ⟨e,he,hb,ds⟩:=this;have:=b2 _ c6 e he hb;have:=I.sub e.on this;omega
    ·rw [List.getElem?_append_left (by omega),a2,List.getElem?_map,List.getElem?_range hq] at hx
     simp only [Option.map_some,Option.some.injEq] at hx;subst hx;cases c1:(R q).mask.testBit n with
     |false=>rfl
     |true=>have:=X.bits hq c1;omega
    ·rw [List.mem_iff_getElem?];refine ⟨i-(n+1),?_⟩;rw [List.getElem?_drop];rw [show n+1+(i-(n+1))=i by omega]
     simp
end
end Go.AE
namespace Go.AE
variable [Gl:AH]
variable [U:Unk]
theorem FU {f:AF} {cs:List AF} {v b:AV} {h c:Aa} {ok:Bool} (a:Cx f cs v h=.done ok b c):cs=[]∧f.kind=.normal∧ok=true∧b=v∧c=h:=by
 unfold Cx at a;split at a
 ·split at a
  ·split at a<;>cases a
  ·split at a<;>cases a
  ·cases a
 ·split at a
  ·rename_i d;cases a;exact ⟨rfl,d,rfl,rfl,rfl⟩
  ·cases a
theorem FD {f:AF} {cs:List AF} {v:AV} {h:Aa} {s:AS} {ops:Array Oper} {k:List AI}:Cx f cs v h≠.draw s ops k:=by
 intro a;unfold Cx at a;split at a
 ·split at a
  ·split at a<;>cases a
  ·split at a<;>cases a
  ·cases a
 ·split at a<;>cases a
theorem EP {E:Env} {f:AF} {cs:List AF} {r:Res}:(∃s,Bv E f cs r=.next s)∨∃y,Bv E f cs r=.bad y:=by
 cases r<;>simp only [Bv]<;>repeat' (first|exact .inl ⟨_,rfl⟩|exact .inr ⟨_,rfl⟩|split)
theorem I2 {E:Env} {s:AS} {f:Operand} {c:List Tmp} {a b:Code} {k:List AI}:(∃d,G6 E s f c a b k=.next d)∨∃y,G6 E s f c a b k=.bad y:=by
 unfold G6
 repeat' (first|exact .inl ⟨_,rfl⟩|exact .inr ⟨_,rfl⟩|split)
theorem ES {f:AF} {cs:List AF} {h:Aa} {j:Option Code} {s:AS} {ops:Array Oper} {k:List AI}:DJ f cs h j≠.draw s ops k:=by
 intro a;unfold DJ at a;split at a
 ·split at a<;>cases a
 ·split at a
  ·exact FD a
  ·cases a
theorem Rj {E:Env} {f:AF} {cs:List AF} {h:Aa} {s:AS} {ops:Array Oper} {k:List AI}:D2 E f cs h≠.draw s ops k:=by
 intro a;unfold D2 at a;split at a
 ·split at a
  ·split at a<;>cases a
  ·split at a
   ·split at a<;>cases a
   ·cases a
 ·split at a
  ·cases a
  ·split at a
   ·split at a<;>cases a
   ·split at a
    ·split at a<;>cases a
    ·cases a
  ·split at a
   ·split at a
    ·exact FD a
    ·exact FD a
    ·cases a
   ·cases a
theorem CC {E:Env} {s b:AS} {ops:Array Oper} {k:List AI} (a:A4 E s=.draw b ops k):b=s∧s.fr.mode=.run∧∃id,s.fr.todo=.code (.region id ops true)::k:=by
 unfold A4 at a;simp only at a;split at a
 ·rename_i d;split at a
  ·exact absurd a ES
  ·cases a
  ·cases a
  ·cases a
  ·cases a
  ·split at a
   ·rcases EP (E:=E) (f:=s.fr) (cs:=s.cs) (r:=aop E s.fr.tmps s.h _) with ⟨y,h⟩|⟨y,h⟩<;>(rw [h] at a;cases a)
   ·rcases EP (E:=E) (f:=s.fr) (cs:=s.cs) (r:=.val .undef s.h) with ⟨y,h⟩|⟨y,h⟩<;>(rw [h] at a;cases a)
   ·cases a
  ·cases a
  ·cases a
  ·cases a
  ·split at a
   ·split at a<;>cases a
   ·cases a
  ·split at a
   ·split at a<;>cases a
   ·cases a
  ·rename_i c k2 e;split at a
   ·exact absurd a ES
   ·cases a
   ·cases a
   ·cases a
   ·split at a
    ·cases a
    ·cases a
    ·split at a
     ·split at a<;>cases a
     ·cases a
    ·cases a
   ·cases a
   ·cases a
   ·cases a
   ·split at a
    ·cases a
    ·split at a
     ·cases a
     ·exact absurd a ES
   ·split at a
    ·cases a
    ·split at a
     ·cases a
     ·exact absurd a ES
   ·rcases I2 (E:=E) (s:=s) with ⟨y,h⟩|⟨y,h⟩<;>(rw [h] at a;cases a)
   ·split at a
    ·cases a
    ·cases a;exact ⟨rfl,d,_,e⟩
   ·cases a
 ·exact absurd a Rj
end Go.AE
namespace Go.AE
variable [Gl:AH]
variable [U:Unk]
def Anv (ok:Bool) (v:Value):Ending:=match ok with
 |true=>.returned v
 |false=>.panicked [{v:=v,recovered:=false}]
def Ac1 (c0:Frame) (ok:Bool) (v:Value):Frame:=match ok with
 |true=>c0.finish v
 |false=>c0.raise [{v:=v,recovered:=false}]
structure Js (P:Program) (cf:Frame) (w:World) (ok:Bool) (v':Value) (w':World):Prop where
 back:∀(c0:Frame) (base:List Frame),step P (lone cf (c0::base) w)=.next (lone (Ac1 c0 ok v') base w')
 leaves:cf.roundOf=none→w'=w∧cf.leaving P w (Anv ok v')
section
variable {E:Env} (hE:OK E) {ρ:Ren} {h h2:Aa} {w:World} {c:Frame} {f:AF} {cs:List AF} {ccs base:List Frame} {s s':AS} {ok:Bool} {v:AV}
theorem FrL.nil_inv {ρ:Ren} {l:List Frame} (h:FrL ρ [] l):l=[]:=by cases h;rfl
theorem EH (hr:HR ρ h.blk.get w) (n:FrR ρ f c) (p:c.mode=.run) {a:Option Code}
  (q:(c.todo=[]∧a=none)∨(∃k,c.todo=.code .ret::k∧a=some .ret)∨(∃id k,c.todo=.code (.exit id)::k∧exitTo id k=none∧a=some (.exit id))∨(∃l k,c.todo=.code (.goto l)::k∧gotoIn l k=none∧a=some (.goto l)))
  (g:DJ f cs h a=.done ok v h2):cs=[]∧∃o i,VR ρ v o∧HR ρ h2.blk.get i∧Ext ρ ρ h h2 w i∧Js E.P c w ok o i:=by
 have e:=n.round;unfold DJ at g;split at g
 ·split at g<;>cases g
 ·rename_i l m;rw [m] at e;obtain ⟨b,r,j⟩:=e.some_inv;split at g
  ·rename_i st pending fn nt tmps params assign body d t;obtain ⟨i,u,x,y⟩:=K9 (E:=E) hr r t a;obtain ⟨rfl,z,rfl,rfl,rfl⟩:=FU g;refine ⟨rfl,_,i,.bool _,x,y,⟨fun c0 base=>UD p j (n.kind.trans z) q u,fun h=>by rw [j] at h;cases h⟩⟩
  ·cases g
include hE
theorem Sb (hr:HR ρ h.blk.get w) (k:FrR ρ f c) (N:c.mode≠.run) (d:D2 E f cs h=.done ok v h2):cs=[]∧∃m y,VR ρ v m∧HR ρ h2.blk.get y∧Ext ρ ρ h h2 w y∧Js E.P c w ok m y:=by
 have g:=k.defers;unfold D2 at d;split at d
 ·split at d
  ·split at d<;>cases d
  ·split at d
   ·split at d<;>cases d
   ·cases d
 ·rename_i z;rw [z] at g
  have i:c.defers=[]:=by
   cases i:c.defers with
   |nil=>rfl
   |cons O L=>rw [i] at g;exact g.elim
  have b:=k.mode;split at d
  ·cases d
  ·rename_i A p;rw [p] at b;split at d
   ·split at d<;>cases d
   ·split at d
    ·split at d
     ·rename_i fn q;cases d;generalize j:c.mode=Q at b;cases b with
      |panic _ B u=>
       cases B with
       |nil=>exact u.elim
       |cons e r=>
        obtain ⟨G,h2,H,M⟩:=u;cases r with
        |cons _ _=>exact M.elim
        |nil=>
         obtain ⟨I,R,S⟩:=e;simp only at G h2 H;subst h2;subst H;have n:c.leaving E.P w (.panicked [{v:=I,recovered:=false}]):=⟨j,i,fn,by rw [k.fn];exact hE.fn _ _ q⟩
         exact ⟨rfl,I,w,G,hr,Ext.refl _ _ _,⟨fun c0 base=>step_leave_panicked n,fun _=>⟨rfl,n⟩⟩⟩
     ·cases d
    ·cases d
  ·rename_i p;rw [p] at b
   have j:c.mode=.returning:=by
    generalize c.mode=x at b;cases b;rfl
   split at d
   ·rename_i fn q;have o:E.P.funcs[c.fn]?=some fn:=by rw [k.fn];exact hE.fn _ _ q
    split at d
    ·rename_i v t;obtain ⟨m,C,J,K⟩:=FJ hE hr k t;obtain ⟨rfl,D,rfl,rfl,rfl⟩:=FU d;have n:c.leaving E.P w (.returned m):=⟨j,i,k.kind.trans D,fn,o,C⟩;exact ⟨rfl,m,w,J _ rfl,hr,Ext.refl _ _ _,⟨fun c0 base=>step_leave_returned n,fun _=>⟨rfl,n⟩⟩⟩
    ·rename_i l F t;obtain ⟨m,C,J,K⟩:=FJ hE hr k t;obtain ⟨rfl,D,rfl,rfl,rfl⟩:=FU d;have n:c.leaving E.P w (.returned m):=⟨j,i,k.kind.trans D,fn,o,C⟩;exact ⟨rfl,m,w,K fun a e=>F a (by rw [e]),hr,Ext.refl _ _ _,⟨fun c0 base=>step_leave_returned n,fun _=>⟨rfl,n⟩⟩⟩
    ·cases d
   ·cases d
theorem Ih (d:SR ρ s c ccs w) (b:A4 E s=.done ok v h2):ccs=[]∧∃n j,VR ρ v n∧HR ρ h2.blk.get j∧Ext ρ ρ s.h h2 w j∧Js E.P c w ok n j:=by
 have g:=d.fr.mode;have e:=d.fr.todo
 suffices z:s.cs=[]∧∃n j,VR ρ v n∧HR ρ h2.blk.get j∧Ext ρ ρ s.h h2 w j∧Js E.P c w ok n j by
  obtain ⟨A,h2⟩:=z;have o:=d.cs;rw [A] at o;exact ⟨o.nil_inv,h2⟩
 unfold A4 at b;simp only at b;split at b
 ·rename_i l;rw [l] at g
  have p:c.mode=.run:=by
   generalize c.mode=x at g;cases g;rfl
  split at b
  ·rename_i q;rw [q] at e;generalize i:c.todo=td at e;cases e;exact EH d.h d.fr p (.inl ⟨i,rfl⟩) b
  ·cases b
  ·cases b
  ·cases b
  ·cases b
  ·split at b
   ·rcases EP (E:=E) (f:=s.fr) (cs:=s.cs) (r:=aop E s.fr.tmps s.h _) with ⟨y,h⟩|⟨y,h⟩<;>(rw [h] at b;cases b)
   ·rcases EP (E:=E) (f:=s.fr) (cs:=s.cs) (r:=.val .undef s.h) with ⟨y,h⟩|⟨y,h⟩<;>(rw [h] at b;cases b)
   ·cases b
  ·cases b
  ·cases b
  ·cases b
  ·split at b
   ·split at b<;>cases b
   ·cases b
  ·split at b
   ·split at b<;>cases b
   ·cases b
  ·rename_i B k q;rw [q] at e;generalize i:c.todo=td at e;cases e with|cons a u=>
   cases a;split at b
   ·exact EH d.h d.fr p (.inr (.inl ⟨_,i,rfl⟩)) b
   ·cases b
   ·cases b
   ·cases b
   ·split at b
    ·cases b
    ·cases b
    ·split at b
     ·split at b<;>cases b
     ·cases b
    ·cases b
   ·cases b
   ·cases b
   ·cases b
   ·split at b
    ·cases b
    ·rename_i t;split at b
     ·cases b
     ·rename_i m;exact EH d.h d.fr p (.inr (.inr (.inl ⟨_,_,i,(N8 u).2 t m,rfl⟩))) b
   ·split at b
    ·cases b
    ·rename_i t;split at b
     ·cases b
     ·rename_i m;exact EH d.h d.fr p (.inr (.inr (.inr ⟨_,_,i,(N9 u).2 t m,rfl⟩))) b
   ·rcases I2 (E:=E) (s:=s) with ⟨y,h⟩|⟨y,h⟩<;>(rw [h] at b;cases b)
   ·split at b<;>cases b
   ·cases b
 ·rename_i l;exact Sb hE d.h d.fr (Hw.not_run g l) b
end
end Go.AE
namespace Go.AE
variable [Gl:AH]
@[reducible] def Ay4:Unk:={facts:=[],V:=⟨fun _=>default,fun _ d=>d⟩,K:=fun _=>none,R:=[],hR:=fun _ _ _ _ _ h=>(by cases h),ok:=by simp}
def GK:SE→SE
 |.nilIs y _=>GK y
 |.nilL=>.c 0
 |.emptyL=>.c 0
 |.upd a _ _ _=>GK a
 |.cat a b=>match GK a with
  |.c n=>match n==0 with
   |true=>GK b
   |false=>.lenL (.cat a b)
  |_=>.lenL (.cat a b)
 |.snoc a r=>match GK a with
  |.c n=>.c (n+1)
  |_=>.lenL (.snoc a r)
 |x=>.lenL x
def Kg:SE→SE
 |.nilIs _ b=>b
 |.nilL=>.bc true
 |.emptyL=>.bc false
 |.snoc _ _=>.bc false
 |.rep _ _=>.bc false
 |.upd a _ _ _=>Kg a
 |x=>.isNil x
def eX:SE→SE→SE
 |.bc true,b=>b
 |.bc false,_=>.bc false
 |_,.bc false=>.bc false
 |a,.bc true=>a
 |a,b=>.and a b
def SE.isB:SE→Bool
 |.bc _=>true
 |.lss _ _=>true
 |.eql _ _=>true
 |.eqS _ _ _=>true
 |.eqSS _ _=>true
 |.isNil _=>true
 |.neg _=>true
 |.and _ _=>true
 |_=>false
def Amt:SE→SE
 |.bc b=>.bc (!b)
 |x=>.neg x
def yH:SE→SE→SE
 |.c n,.c m=>.bc (n==m)
 |a,b=>match a.same b with
  |true=>.bc true
  |false=>.eql a b
def yB:SE→SE→SE
 |.c n,.c m=>.bc (decide (n<m))
 |a,b=>.lss a b
def SE.norm:SE→SE
 |.lenL a=>GK a.norm
 |.isNil a=>match (Kg a.norm).isB with
  |true=>Kg a.norm
  |false=>.isNil a.norm
 |.and a b=>match (eX a.norm b.norm).isB with
  |true=>eX a.norm b.norm
  |false=>.and a.norm b.norm
 |.neg a=>Amt a.norm
 |.nilIs a b=>.nilIs a.norm b.norm
 |.eql a b=>yH a.norm b.norm
 |.lss a b=>yB a.norm b.norm
 |.arith l k a b=>.arith l k a.norm b.norm
 |.cell a i j=>.cell a.norm i.norm j
 |.snoc a r=>.snoc a.norm r.norm
 |.rcons x r=>.rcons x.norm r.norm
 |.upd a i j x=>.upd a.norm i.norm j x.norm
 |.sel a j=>.sel a.norm j
 |.app g a=>.app g a.norm
 |.cat a b=>.cat a.norm b.norm
 |.rmv a i=>.rmv a.norm i.norm
 |.mIdx ks a k=>.mIdx ks a.norm k.norm
 |e=>e
theorem fB (V:Val):∀x:SE,Ac V (GK x)=.int ((Ac V x).rows.length:Nat):=by
 intro x
 induction x
 case nilIs y b ih _=>simp only [GK,ih,Ac,D.rows]
 case upd a i j x ih _ _=>simp only [GK,ih,Ac,D.rows,List.length_modify]
 case cat a b c d=>
  simp only [GK];split
  ·rename_i n h;split
   ·rename_i f;have f:=eq_of_beq f;subst f;rw [h] at c
    have h0:(Ac V a).rows.length=0:=by
     simp only [Ac,D.int.injEq] at c;omega
    rw [d];have e:(Ac V (.cat a b)).rows=(Ac V a).rows++(Ac V b).rows:=rfl;rw [e,List.length_append,h0,Nat.zero_add]
   ·rfl
  ·rfl
 case snoc a r ih _=>
  simp only [GK];split
  ·rename_i n h;rw [h] at ih;simp only [Ac,D.int.injEq,D.rows,List.length_append,List.length_singleton] at ih ⊢;omega
  ·rfl
 all_goals rfl
theorem bQ (V:Val):∀x:SE,(Kg x).isB=true→Ac V (Kg x)=.bool (Ac V x).isNil:=by
 intro x
 induction x<;>intro c<;>first|rfl|skip
 case upd a i j x ih _ _=>exact ih c
 case nilIs y b _ _=>
  simp only [Kg] at c ⊢;cases b<;>first|rfl | (simp [SE.isB] at c;done)|skip
theorem Rt (V:Val) {x:SE} (h:x.isB=true):Ac V x=.bool (Ac V x).toBool:=by
 cases x<;>first|rfl | (simp [SE.isB] at h;done)
theorem m3 (V:Val) (a b:SE) (h:(eX a b).isB=true):Ac V (eX a b)=Ac V (.and a b):=by
 unfold eX at h ⊢;split
 ·simp only at h;rw [Rt V h];simp only [Ac,D.toBool,Bool.true_and]
 ·simp only [Ac,D.toBool,Bool.false_and]
 ·simp only [Ac,D.toBool,Bool.and_false]
 ·simp only at h;rw [Rt V h];simp only [Ac,D.toBool,Bool.and_true]
 ·rfl
theorem lX (V:Val) (a b:SE):Ac V (yH a b)=Ac V (.eql a b):=by
 unfold yH;split
 ·rfl
 ·split
  ·rename_i h;rw [SE.same_ok (U:=Ay4) h];simp only [Ac,beq_self_eq_true]
  ·rfl
theorem l8 (V:Val) (a b:SE):Ac V (yB a b)=Ac V (.lss a b):=by
 unfold yB;split<;>rfl
theorem Ck (V:Val):∀e:SE,Ac V e.norm=Ac V e:=by
 intro e
 induction e
 case lenL a ih=>simp only [SE.norm,fB,ih];rfl
 case isNil a ih=>
  simp only [SE.norm];split
  ·rename_i h;rw [bQ V _ h,ih];rfl
  ·simp only [Ac,ih]
 case and a b c d=>
  simp only [SE.norm];split
  ·rename_i h;rw [m3 V _ _ h];simp only [Ac,c,d]
  ·simp only [Ac,c,d]
 case neg a ih=>
  simp only [SE.norm];unfold Amt;split
  ·rename_i b h;rw [h] at ih;simp only [Ac] at ih ⊢;rw [←ih];rfl
  ·simp only [Ac,ih]
 case eql a b c d=>simp only [SE.norm,lX,Ac,c,d]
 case lss a b c d=>simp only [SE.norm,l8,Ac,c,d]
 all_goals simp_all only [SE.norm,Ac]
end Go.AE
namespace Go.AE
variable [Gl:AH]
def eqD {c:Type} [DecidableEq c] (a b:c):Bool:=decide (a=b)
theorem Cp {c:Type} [DecidableEq c] {a b:c} (h:eqD a b=true):a=b:=of_decide_eq_true h
theorem AZ {i j:Nat} (h:Nat.beq i j=true):i=j:=Nat.eq_of_beq_eq_true h
def Si:Value→Value→Bool
 |.bool a,.bool b=>eqD a b
 |.int k a,.int c b=>eqD k c&&eqD a b
 |.string a,.string b=>eqD a.data.toList b.data.toList
 |.pointer none,.pointer none=>true
 |.slice none a b,.slice none d e=>Nat.beq a d&&Nat.beq b e
 |.map none,.map none=>true
 |.nilFunc,.nilFunc=>true
 |.nilIface,.nilIface=>true
 |_,_=>false
theorem Xl {a b:Value} (h:Si a b=true):a=b:=by
 unfold Si at h;split at h<;>first|rfl | (cases h;done)|skip
 ·rw [Cp h]
 ·simp only [Bool.and_eq_true] at h;rw [Cp h.1,Cp h.2]
 ·rename_i a b;have:=Cp h
  have e:a=b:=by
   cases a;cases b;simp only [ByteArray.mk.injEq];exact Array.ext' this
  rw [e]
 ·simp only [Bool.and_eq_true] at h;rw [AZ h.1,AZ h.2]
def AL:Operand→Operand→Bool
 |.tmp a,.tmp b=>Nat.beq a b
 |.const a,.const b=>Si a b
 |.global a,.global b=>Nat.beq a b
 |.func a,.func b=>Nat.beq a b
 |_,_=>false
theorem Ao {a b:Operand} (h:AL a b=true):a=b:=by
 unfold AL at h;split at h<;>first | (cases h;done)|skip
 ·rw [AZ h]
 ·rw [Xl h]
 ·rw [AZ h]
 ·rw [AZ h]
def FS {c:Type} (d:c→c→Bool):List c→List c→Bool
 |[],[]=>true
 |a::l,b::m=>d a b&&FS d l m
 |_,_=>false
theorem G4 {c:Type} {d:c→c→Bool} (e:∀a b,d a b=true→a=b):∀{l m:List c},FS d l m=true→l=m
 |[],[],_=>rfl
 |a::l,b::m,h=>by
  simp only [FS,Bool.and_eq_true] at h;rw [e a b h.1,G4 e h.2]
 |[],_::_,h=>by cases h
 |_::_,[],h=>by cases h
def LS {c:Type} (d:c→c→Bool) (a b:Array c):Bool:=FS d a.toList b.toList
theorem Er {c:Type} {d:c→c→Bool} (e:∀a b,d a b=true→a=b) {a b:Array c} (h:LS d a b=true):a=b:=Array.ext' (G4 e h)
def Y1 (a b:Array Operand):Bool:=LS AL a b
theorem Of {a b:Array Operand} (h:Y1 a b=true):a=b:=Er (fun _ _=>Ao) h
def Abi (a b:Array (Nat×Operand)):Bool:=LS (fun x y=>Nat.beq x.1 y.1&&AL x.2 y.2) a b
theorem Zw {a b:Array (Nat×Operand)} (h:Abi a b=true):a=b:=Er (fun x y h=>by
 simp only [Bool.and_eq_true] at h;exact Prod.ext (AZ h.1) (Ao h.2)) h
def VT {c:Type} (d:c→c→Bool):Option c→Option c→Bool
 |none,none=>true
 |some a,some b=>d a b
 |_,_=>false
theorem JO {c:Type} {d:c→c→Bool} (e:∀a b,d a b=true→a=b) {a b:Option c} (h:VT d a b=true):a=b:=by
 cases a<;>cases b<;>first|rfl | (cases h;done)|skip
 rw [e _ _ h]
def gL (a b:Option Operand):Bool:=VT AL a b
theorem MI {a b:Option Operand} (h:gL a b=true):a=b:=JO (fun _ _=>Ao) h
def gT:Fn→Fn→Bool
 |.func f,.func g=>Nat.beq f g
 |.method n,.method m=>eqD n m
 |_,_=>false
theorem i5 {a b:Fn} (h:gT a b=true):a=b:=by
 unfold gT at h;split at h<;>first | (cases h;done)|skip
 ·rw [AZ h]
 ·rw [Cp h]
def N5:Callee→Callee→Bool
 |.value f,.value g=>AL f g
 |.invoke r n,.invoke a c=>AL r a&&eqD n c
 |.builtin b,.builtin d=>eqD b d
 |_,_=>false
theorem VU {a b:Callee} (h:N5 a b=true):a=b:=by
 unfold N5 at h;split at h<;>first | (cases h;done)|skip
 ·rw [Ao h]
 ·simp only [Bool.and_eq_true] at h;rw [Ao h.1,Cp h.2]
 ·rw [Cp h]
def R9 (a b:Call):Bool:=N5 a.callee b.callee&&Y1 a.args b.args&&LS Nat.beq a.argTypes b.argTypes
theorem QW {a b:Call} (h:R9 a b=true):a=b:=by
 cases a;cases b;simp only [R9,Bool.and_eq_true] at h;simp only [Call.mk.injEq];exact ⟨VU h.1.1,Of h.1.2,Er (fun _ _=>AZ) h.2⟩
def Adb:Op→Op→Bool
 |.move x0,.move a=>AL x0 a
 |.assign x0,.assign a=>AL x0 a
 |.pick x0 x1 b,.pick a y1 y2=>AL x0 a&&AL x1 y1&&AL b y2
 |.alloc x0,.alloc a=>Nat.beq x0 a
 |.box x0 x1,.box a y1=>Nat.beq x0 a&&AL x1 y1
 |.build x0 x1,.build a y1=>Nat.beq x0 a&&Abi x1 y1
 |.buildSlice x0 x1 b,.buildSlice a y1 y2=>Nat.beq x0 a&&Nat.beq x1 y1&&Abi b y2
 |.insert x0 x1 b c,.insert a y1 y2 y3=>Nat.beq x0 a&&AL x1 y1&&AL b y2&&AL c y3
 |.load x0 x1,.load a y1=>Nat.beq x0 a&&AL x1 y1
 |.store x0 x1 b,.store a y1 y2=>Nat.beq x0 a&&AL x1 y1&&AL b y2
 |.ready x0,.ready a=>Nat.beq x0 a
 |.waits x0,.waits a=>Nat.beq x0 a
 |.nilCheck x0,.nilCheck a=>AL x0 a
 |.binOp x0 x1 b c d,.binOp a y1 y2 y3 y4=>eqD x0 a&&Nat.beq x1 y1&&AL b y2&&AL c y3&&Nat.beq d y4
 |.unOp x0 x1 b,.unOp a y1 y2=>eqD x0 a&&Nat.beq x1 y1&&AL b y2
 |.convert x0 x1 b,.convert a y1 y2=>Nat.beq x0 a&&Nat.beq x1 y1&&AL b y2
 |.sliceToArrayPointer x0 x1,.sliceToArrayPointer a y1=>Nat.beq x0 a&&AL x1 y1
 |.makeInterface x0 x1,.makeInterface a y1=>Nat.beq x0 a&&AL x1 y1
 |.makeFunc x0 x1 b,.makeFunc a y1 y2=>gT x0 a&&Y1 x1 y1&&Y1 b y2
 |.makeMap x0 x1,.makeMap a y1=>Nat.beq x0 a&&gL x1 y1
 |.makeSlice x0 x1 b,.makeSlice a y1 y2=>Nat.beq x0 a&&AL x1 y1&&AL b y2
 |.slice x0 x1 b c d,.slice a y1 y2 y3 y4=>Nat.beq x0 a&&AL x1 y1&&gL b y2&&gL c y3&&gL d y4
 |.fieldAddr x0 x1 b,.fieldAddr a y1 y2=>Nat.beq x0 a&&AL x1 y1&&Nat.beq b y2
 |.field x0 x1 b,.field a y1 y2=>Nat.beq x0 a&&AL x1 y1&&Nat.beq b y2
 |.indexAddr x0 x1 b,.indexAddr a y1 y2=>Nat.beq x0 a&&AL x1 y1&&AL b y2
 |.index x0 x1 b,.index a y1 y2=>Nat.beq x0 a&&AL x1 y1&&AL b y2
 |.lookup x0 x1 b c,.lookup a y1 y2 y3=>Nat.beq x0 a&&AL x1 y1&&AL b y2&&eqD c y3
 |.mapUpdate x0 x1 b c,.mapUpdate a y1 y2 y3=>Nat.beq x0 a&&AL x1 y1&&AL b y2&&AL c y3
 |.mapEntry x0 x1 b,.mapEntry a y1 y2=>Nat.beq x0 a&&AL x1 y1&&AL b y2
 |.entryStore x0 x1 b c,.entryStore a y1 y2 y3=>Nat.beq x0 a&&AL x1 y1&&AL b y2&&AL c y3
 |.range x0 x1,.range a y1=>Nat.beq x0 a&&AL x1 y1
 |.next x0 x1,.next a y1=>AL x0 a&&eqD x1 y1
 |.entry x0,.entry a=>AL x0 a
 |.typeAssert x0 x1 b c,.typeAssert a y1 y2 y3=>AL x0 a&&Nat.beq x1 y1&&Nat.beq b y2&&eqD c y3
 |.extract x0 x1,.extract a y1=>AL x0 a&&Nat.beq x1 y1
 |.call x0,.call a=>R9 x0 a
 |.defer x0,.defer a=>R9 x0 a
 |.panic x0,.panic a=>AL x0 a
 |_,_=>false
set_option maxHeartbeats 4000000 in
theorem nc:∀{a b:Op},Adb a b=true→a=b:=by
 intro a b h;cases a<;>cases b<;>simp only [Adb,Bool.false_eq_true,Bool.and_eq_true] at h
 case move.move=>have h0:=h;rw [Ao h0]
 case assign.assign=>have h0:=h;rw [Ao h0]
 case pick.pick=>obtain ⟨⟨h0,c⟩,d⟩:=h;rw [Ao h0,Ao c,Ao d]
 case alloc.alloc=>have h0:=h;rw [AZ h0]
 case box.box=>obtain ⟨h0,c⟩:=h;rw [AZ h0,Ao c]
 case build.build=>obtain ⟨h0,c⟩:=h;rw [AZ h0,Zw c]
 case buildSlice.buildSlice=>obtain ⟨⟨h0,c⟩,d⟩:=h;rw [AZ h0,AZ c,Zw d]
 case insert.insert=>obtain ⟨⟨⟨h0,c⟩,d⟩,e⟩:=h;rw [AZ h0,Ao c,Ao d,Ao e]
 case load.load=>obtain ⟨h0,c⟩:=h;rw [AZ h0,Ao c]
 case store.store=>obtain ⟨⟨h0,c⟩,d⟩:=h;rw [AZ h0,Ao c,Ao d]
 case ready.ready=>have h0:=h;rw [AZ h0]
 case waits.waits=>have h0:=h;rw [AZ h0]
 case nilCheck.nilCheck=>have h0:=h;rw [Ao h0]
 case binOp.binOp=>obtain ⟨⟨⟨⟨h0,c⟩,d⟩,e⟩,f⟩:=h;rw [Cp h0,AZ c,Ao d,Ao e,AZ f]
 case unOp.unOp=>obtain ⟨⟨h0,c⟩,d⟩:=h;rw [Cp h0,AZ c,Ao d]
 case convert.convert=>obtain ⟨⟨h0,c⟩,d⟩:=h;rw [AZ h0,AZ c,Ao d]
 case sliceToArrayPointer.sliceToArrayPointer=>obtain ⟨h0,c⟩:=h;rw [AZ h0,Ao c]
 case makeInterface.makeInterface=>obtain ⟨h0,c⟩:=h;rw [AZ h0,Ao c]
 case makeFunc.makeFunc=>obtain ⟨⟨h0,c⟩,d⟩:=h;rw [i5 h0,Of c,Of d]
 case makeMap.makeMap=>obtain ⟨h0,c⟩:=h;rw [AZ h0,MI c]
 case makeSlice.makeSlice=>obtain ⟨⟨h0,c⟩,d⟩:=h;rw [AZ h0,Ao c,Ao d]
 case slice.slice=>obtain ⟨⟨⟨⟨h0,c⟩,d⟩,e⟩,f⟩:=h;rw [AZ h0,Ao c,MI d,MI e,MI f]
 case fieldAddr.fieldAddr=>obtain ⟨⟨h0,c⟩,d⟩:=h;rw [AZ h0,Ao c,AZ d]
 case field.field=>obtain ⟨⟨h0,c⟩,d⟩:=h;rw [AZ h0,Ao c,AZ d]
 case indexAddr.indexAddr=>obtain ⟨⟨h0,c⟩,d⟩:=h;rw [AZ h0,Ao c,Ao d]
 case index.index=>obtain ⟨⟨h0,c⟩,d⟩:=h;rw [AZ h0,Ao c,Ao d]
 case lookup.lookup=>obtain ⟨⟨⟨h0,c⟩,d⟩,e⟩:=h;rw [AZ h0,Ao c,Ao d,Cp e]
 case mapUpdate.mapUpdate=>obtain ⟨⟨⟨h0,c⟩,d⟩,e⟩:=h;rw [AZ h0,Ao c,Ao d,Ao e]
 case mapEntry.mapEntry=>obtain ⟨⟨h0,c⟩,d⟩:=h;rw [AZ h0,Ao c,Ao d]
 case entryStore.entryStore=>obtain ⟨⟨⟨h0,c⟩,d⟩,e⟩:=h;rw [AZ h0,Ao c,Ao d,Ao e]
 case range.range=>obtain ⟨h0,c⟩:=h;rw [AZ h0,Ao c]
 case next.next=>obtain ⟨h0,c⟩:=h;rw [Ao h0,Cp c]
 case entry.entry=>have h0:=h;rw [Ao h0]
 case typeAssert.typeAssert=>obtain ⟨⟨⟨h0,c⟩,d⟩,e⟩:=h;rw [Ao h0,AZ c,AZ d,Cp e]
 case extract.extract=>obtain ⟨h0,c⟩:=h;rw [Ao h0,AZ c]
 case call.call=>have h0:=h;rw [QW h0]
 case defer.defer=>have h0:=h;rw [QW h0]
 case panic.panic=>have h0:=h;rw [Ao h0]
def XH (a b:Edge):Bool:=Nat.beq a.on b.on&&eqD a.ground b.ground
theorem ax {a b:Edge} (h:XH a b=true):a=b:=by
 cases a;cases b;simp only [XH,Bool.and_eq_true] at h;simp only [Edge.mk.injEq];exact ⟨AZ h.1,Cp h.2⟩
def Ov (a b:Oper):Bool:=VT Nat.beq a.dst b.dst&&Adb a.op b.op&&Nat.beq a.type b.type&&LS XH a.after b.after&&VT (fun x y=>Nat.beq x.1 y.1&&eqD x.2 y.2) a.guard b.guard&&eqD a.pos b.pos
theorem Kw {a b:Oper} (h:Ov a b=true):a=b:=by
 cases a;cases b;simp only [Ov,Bool.and_eq_true] at h;obtain ⟨⟨⟨⟨⟨c,d⟩,e⟩,f⟩,g⟩,i⟩:=h;simp only [Oper.mk.injEq];refine ⟨JO (fun _ _=>AZ) c,nc d,AZ e,Cp i,Er (fun _ _=>ax) f,JO (fun x y h=>?_) g⟩
 simp only [Bool.and_eq_true] at h;exact Prod.ext (AZ h.1) (Cp h.2)
def Cd:Code→Code→Bool
 |.skip,.skip=>true
 |.region i o d,.region g j k=>Nat.beq i g&&eqD d k&&LS Ov o j
 |.seq a b,.seq e h=>Cd a e&&Cd b h
 |.cond c a b,.cond l e h=>AL c l&&Cd a e&&Cd b h
 |.block i a,.block g e=>Nat.beq i g&&Cd a e
 |.loop a,.loop e=>Cd a e
 |.rangeFunc f p a b,.rangeFunc m n e h=>AL f m&&LS Nat.beq p n&&Cd a e&&Cd b h
 |.exit i,.exit g=>Nat.beq i g
 |.scope a,.scope e=>Cd a e
 |.label i,.label g=>Nat.beq i g
 |.goto i,.goto g=>Nat.beq i g
 |.ret,.ret=>true
 |_,_=>false
theorem D6:∀{a b:Code},Cd a b=true→a=b:=by
 intro a
 induction a<;>intro b h<;>cases b<;>simp only [Cd,Bool.false_eq_true,Bool.and_eq_true] at h<;>first|rfl|skip
 case region.region=>rw [AZ h.1.1,Cp h.1.2,Er (fun _ _=>Kw) h.2]
 case seq.seq c d _ _=>rw [c h.1,d h.2]
 case cond.cond c d _ _ _=>rw [Ao h.1.1,c h.1.2,d h.2]
 case block.block ih _ _=>rw [AZ h.1,ih h.2]
 case loop.loop ih _=>rw [ih h]
 case rangeFunc.rangeFunc c d _ _ _ _=>rw [Ao h.1.1.1,Er (fun _ _=>AZ) h.1.1.2,c h.1.2,d h.2]
 case exit.exit=>rw [AZ h]
 case scope.scope ih _=>rw [ih h]
 case label.label=>rw [AZ h]
 case goto.goto=>rw [AZ h]
end Go.AE
namespace Go.AE
variable [Gl:AH]
def SE.inst (t:List SE):SE→SE
 |.c n=>.c n
 |.var i=>t.getD i (.var i)
 |.lenS a=>.lenS (a.inst t)
 |.lenL a=>.lenL (a.inst t)
 |.arith C k a b=>.arith C k (a.inst t) (b.inst t)
 |.conv k a=>.conv k (a.inst t)
 |.lss a b=>.lss (a.inst t) (b.inst t)
 |.eql a b=>.eql (a.inst t) (b.inst t)
 |.eqS a l b=>.eqS (a.inst t) l b
 |.eqSS a b=>.eqSS (a.inst t) (b.inst t)
 |.isNil a=>.isNil (a.inst t)
 |.bc b=>.bc b
 |.neg a=>.neg (a.inst t)
 |.and a b=>.and (a.inst t) (b.inst t)
 |.nilIs a b=>.nilIs (a.inst t) (b.inst t)
 |.strc l b=>.strc l b
 |.strAt a i=>.strAt (a.inst t) (i.inst t)
 |.strCat a b=>.strCat (a.inst t) (b.inst t)
 |.strSub a lo hi=>.strSub (a.inst t) (lo.inst t) (hi.inst t)
 |.cell a i j=>.cell (a.inst t) (i.inst t) j
 |.sel a j=>.sel (a.inst t) j
 |.nilL=>.nilL
 |.emptyL=>.emptyL
 |.snoc a r=>.snoc (a.inst t) (r.inst t)
 |.upd a i j x=>.upd (a.inst t) (i.inst t) j (x.inst t)
 |.rep n r=>.rep (n.inst t) (r.inst t)
 |.cat a b=>.cat (a.inst t) (b.inst t)
 |.sub a lo hi=>.sub (a.inst t) (lo.inst t) (hi.inst t)
 |.rnil=>.rnil
 |.rcons x r=>.rcons (x.inst t) (r.inst t)
 |.app f x=>.app f (x.inst t)
 |.bytes a=>.bytes (a.inst t)
 |.ofBytes a=>.ofBytes (a.inst t)
 |.mIdx ks a k=>.mIdx ks (a.inst t) (k.inst t)
 |.rmv a i=>.rmv (a.inst t) (i.inst t)
def Val.inst (V:Val) (j:List SE):Val:={d:=fun i=>Ac V (j.getD i (.var i)),fn:=V.fn}
theorem B2 (V:Val) (a:List SE):∀e:SE,Ac V (e.inst a)=Ac (V.inst a) e:=by
 intro e
 induction e<;>simp_all only [SE.inst,Ac,Val.inst]<;>rfl
theorem QR (V:Val) (a:List SE) (e:SE):Af V (e.inst a)=Af (V.inst a) e:=by unfold Af;rw [B2]
theorem Fh (V:Val) (a:List SE) (e:SE):Ah V (e.inst a)=Ah (V.inst a) e:=by unfold Ah;rw [B2]
abbrev Obs:=List (SE×SE)
def MC (a b:SE):Option Obs:=match a.same b with
 |true=>some []
 |false=>match a.norm.same b.norm with
  |true=>some []
  |false=>some [(a,b)]
def C5 (a b:SE):Option Obs:=match a.same b with
 |true=>some []
 |false=>match a.norm.same b.norm with
  |true=>some []
  |false=>some [(.and a (.bc true),.and b (.bc true))]
def HC (a b:SE):Option Obs:=match a.same b with
 |true=>some []
 |false=>match a.norm.same b.norm with
  |true=>some []
  |false=>some [(.eql a b,.bc true)]
def Obs.holds (V:Val) (o:Obs):Prop:=∀a b,(a,b)∈o→Ac V a=Ac V b
def DS (a b:Option Obs):Option Obs:=match a,b with
 |some x,some y=>some (x++y)
 |_,_=>none
def DQ (c:Bool) (o:Option Obs):Option Obs:=match c with
 |true=>o
 |false=>none
def toB (a:List Nat) (b c:Nat):Bool:=match a[b]? with
 |some d=>Nat.beq d c
 |none=>false
def mV (a:List Nat):Fn→Fn→Bool
 |.func f,.func g=>Nat.beq f g
 |.yield l,.yield m=>toB a l m
 |_,_=>false
mutual
def CH (d:List SE) (h:List Nat):AV→AV→Option Obs
 |.top,_=>some []
 |.bool a,.bool b=>DQ (a==b) (some [])
 |.int k a,.int u b=>DQ (decide (k=u)&&a==b) (some [])
 |.str l a,.str w b=>DQ (Nat.beq l w&&Nat.beq a b) (some [])
 |.ptr0,.ptr0=>some []
 |.ptr b o,.ptr j y=>DQ (toB h b j&&Nat.beq o y) (some [])
 |.slice0,.slice0=>some []
 |.slice b o n r,.slice j y z q=>DQ (toB h b j&&Nat.beq o y&&Nat.beq n z&&Nat.beq r q) (some [])
 |.map0,.map0=>some []
 |.map b,.map j=>DQ (toB h b j) (some [])
 |.func fn f c,.func A C D=>DQ (mV h fn A) (DS (FW d h f C) (FW d h c D))
 |.nilFunc,.nilFunc=>some []
 |.iface t v,.iface E F=>DQ (Nat.beq t E) (CH d h v F)
 |.nilIface,.nilIface=>some []
 |.agg l,.agg w=>FW d h l w
 |.tuple l,.tuple w=>FW d h l w
 |.sb p e,.sb G s=>match p==G with
  |true=>C5 (e.inst d) s
  |false=>C5 (e.inst d) (.neg s)
 |.sb p e,.bool b=>C5 (e.inst d) (.bc (b==p))
 |.si k e,.si u s=>DQ (decide (k=u)) (HC (e.inst d) s)
 |.si k e,.int u n=>DQ (decide (k=u)) (HC (e.inst d) (.c n))
 |.ss x,.ss B=>MC (x.inst d) B
 |.ss x,.str l b=>MC (x.inst d) (.strc l b)
 |.dat e x,.dat s B=>DQ (Nat.beq e s) (MC (x.inst d) B)
 |.dat e x,.slice0=>MC (x.inst d) .nilL
 |.asl b r n g,.asl j q z i=>DQ (toB h b j&&Nat.beq r q) (DS (HC (n.inst d) z) (C5 (g.inst d) i))
 |.asl b r n g,.slice j y z q=>DQ (toB h b j&&Nat.beq y 0&&Nat.beq r q) (DS (HC (n.inst d) (.c z)) (C5 (g.inst d) (.bc false)))
 |.asl b r n g,.slice0=>DS (HC (n.inst d) (.c 0)) (C5 (g.inst d) (.bc true))
 |.asl b r n g,.eslc i=>DS (HC (n.inst d) (.c 0)) (C5 (g.inst d) i)
 |.eslc g,.eslc i=>C5 (g.inst d) i
 |.eslc g,.slice0=>C5 (g.inst d) (.bc true)
 |.nmap b g,.nmap j i=>DQ (toB h b j) (C5 (g.inst d) i)
 |.nmap b g,.map j=>DQ (toB h b j) (C5 (g.inst d) (.bc false))
 |.nmap _ g,.map0=>C5 (g.inst d) (.bc true)
 |_,_=>none
termination_by structural a=>a
def FW (d:List SE) (h:List Nat):List AV→List AV→Option Obs
 |[],[]=>some []
 |a::l,b::m=>DS (CH d h a b) (FW d h l m)
 |_,_=>none
termination_by structural l=>l
end
@[reducible] def AB:Unk:={facts:=[],V:=⟨fun _=>default,fun _ d=>d⟩,K:=fun _=>none,R:=[],hR:=fun _ _ _ _ _ h=>(by cases h),ok:=by simp}
theorem Obs.append {V:Val} {a b:Obs} (h:Obs.holds V (a++b)):Obs.holds V a∧Obs.holds V b:=
 ⟨fun x y i=>h x y (by simp [i]),fun x y i=>h x y (by simp [i])⟩
theorem GW {V:Val} {a b:SE} {o:Obs} (h:MC a b=some o) (d:o.holds V):Ac V a=Ac V b:=by
 unfold MC at h;split at h
 ·rename_i c;rw [SE.same_ok (U:=AB) c]
 ·split at h
  ·rename_i c;have:=congrArg (Ac V) (SE.same_ok (U:=AB) c)
   rwa [Ck,Ck] at this
  ·cases h;exact d a b (by simp)
theorem Uv {V:Val} {a b:SE} {o:Obs} (h:HC a b=some o) (d:o.holds V):Af V a=Af V b:=by
 unfold HC at h;split at h
 ·rename_i c;rw [SE.same_ok (U:=AB) c]
 ·split at h
  ·rename_i c;have:=congrArg (Ac V) (SE.same_ok (U:=AB) c);rw [Ck,Ck] at this;unfold Af;rw [this]
  ·cases h;have:=d (.eql a b) (.bc true) (by simp)
   simp only [Ac,D.bool.injEq] at this;exact eq_of_beq this
theorem Jz {V:Val} {a b:SE} {o:Obs} (h:C5 a b=some o) (d:o.holds V):Ah V a=Ah V b:=by
 unfold C5 at h;split at h
 ·rename_i c;rw [SE.same_ok (U:=AB) c]
 ·split at h
  ·rename_i c;have:=congrArg (Ac V) (SE.same_ok (U:=AB) c);rw [Ck,Ck] at this;unfold Ah;rw [this]
  ·cases h;have:=d (.and a (.bc true)) (.and b (.bc true)) (by simp)
   simp only [Ac,D.bool.injEq,D.toBool,Bool.and_true] at this;exact this
theorem BJ {a b:Option Obs} {o:Obs} (h:DS a b=some o):∃x y,a=some x∧b=some y∧o=x++y:=by
 unfold DS at h;split at h
 ·cases h;exact ⟨_,_,rfl,rfl,rfl⟩
 ·cases h
theorem A2 {c:Bool} {a:Option Obs} {o:Obs} (h:DQ c a=some o):c=true∧a=some o:=by
 cases c with
 |true=>exact ⟨rfl,h⟩
 |false=>cases h
def Ren.back (ρ:Ren) (i:List Nat):Ren:=⟨fun b=>(i[b]?).bind ρ.m,ρ.imm⟩
theorem E2 {a:List Nat} {b c:Nat} (h:toB a b c=true) (ρ:Ren):(ρ.back a).m b=ρ c:=by
 unfold toB at h;split at h
 ·rename_i d e;rw [Aw h] at e;simp [Ren.back,e]
 ·cases h
section
variable {U W:Unk} {θ:List SE} (hV:W.V=U.V.inst θ) (hK:W.K=U.K) {β:List Nat} {ρ:Ren}
include hV hK
theorem YG {f g:Fn} {a:Fn} (h:mV β f g=true) (b:FnR ρ g a):FnR (ρ.back β) f a:=by
 cases f<;>cases g<;>simp only [mV,Bool.false_eq_true] at h
 ·rw [Aw h];exact b
 ·obtain ⟨base,c,d⟩:=b;exact ⟨base,by rw [E2 h];exact c,d⟩
mutual
theorem G8:∀(a b:AV) (o:Obs) (v:Value),CH θ β a b=some o→o.holds U.V→@VR U.toVals ρ b v→@VR W.toVals (ρ.back β) a v
 |.top,_,_,v,_,_,_=>@VR.top W.toVals _ v
 |.bool a,b,o,v,h,g,d=>by
  cases b<;>simp only [CH,reduceCtorEq] at h
  obtain ⟨i,_⟩:=A2 h;cases d;have:=eq_of_beq i;subst this;exact @VR.bool W.toVals _ _
 |.int k a,b,o,v,h,g,d=>by
  cases b<;>simp only [CH,reduceCtorEq] at h
  obtain ⟨i,_⟩:=A2 h;cases d;simp only [Bool.and_eq_true,decide_eq_true_eq,beq_iff_eq] at i;obtain ⟨rfl,rfl⟩:=i;exact @VR.int W.toVals _ _ _
 |.str l a,b,o,v,h,g,d=>by
  cases b<;>simp only [CH,reduceCtorEq] at h
  obtain ⟨i,_⟩:=A2 h;obtain ⟨j,A⟩:=Aq i;rw [Aw j,Aw A];cases d;exact @VR.str W.toVals _ _
 |.ptr0,b,o,v,h,g,d=>by
  cases b<;>simp only [CH,reduceCtorEq] at h
  cases d;exact @VR.ptr0 W.toVals _
 |.ptr b off,x,o,v,h,g,d=>by
  cases x<;>simp only [CH,reduceCtorEq] at h
  obtain ⟨i,_⟩:=A2 h;obtain ⟨j,A⟩:=Aq i;cases d with
  |ptr _ _ base F=>
   rw [Aw A];exact @VR.ptr W.toVals _ _ _ base (by rw [E2 j];exact F)
 |.slice0,b,o,v,h,g,d=>by
  cases b<;>simp only [CH,reduceCtorEq] at h
  cases d;exact @VR.slice0 W.toVals _
 |.slice b off n J,x,o,v,h,g,d=>by
  cases x<;>simp only [CH,reduceCtorEq] at h
  obtain ⟨i,_⟩:=A2 h;obtain ⟨j,A⟩:=Aq i;obtain ⟨G,h5⟩:=Aq j;obtain ⟨L,M⟩:=Aq G;rw [Aw A,Aw h5,Aw M];cases d with
  |slice _ _ _ _ H base F N O=>exact @VR.slice W.toVals _ _ _ _ _ H base (by rw [E2 L];exact F) N O
  |sliceEnd _ _ _ a=>exact @VR.sliceEnd W.toVals _ _ _ _ a
 |.map0,b,o,v,h,g,d=>by
  cases b<;>simp only [CH,reduceCtorEq] at h
  cases d;exact @VR.map0 W.toVals _
 |.map b,x,o,v,h,g,d=>by
  cases x<;>simp only [CH,reduceCtorEq] at h
  obtain ⟨i,_⟩:=A2 h;cases d with
  |map _ base F=>exact @VR.map W.toVals _ _ base (by rw [E2 i];exact F)
 |.func fn f c,x,o,v,h,g,d=>by
  cases x<;>simp only [CH,reduceCtorEq] at h
  obtain ⟨i,j⟩:=A2 h;obtain ⟨o1,o2,A,G,rfl⟩:=BJ j;obtain ⟨u,w⟩:=Obs.append g;cases d with
  |func _ aa _ _ f' c' P Q r3 r4 r5=>
   have X:=DA f _ o1 f' A u ⟨Q,r3⟩;have Y:=DA c _ o2 c' G w ⟨r4,r5⟩;exact @VR.func W.toVals _ fn aa f c f' c' (YG hV hK i P) X.1 X.2 Y.1 Y.2
 |.nilFunc,b,o,v,h,g,d=>by
  cases b<;>simp only [CH,reduceCtorEq] at h
  cases d;exact @VR.nilFunc W.toVals _
 |.iface t a,x,o,v,h,g,d=>by
  cases x<;>simp only [CH,reduceCtorEq] at h
  obtain ⟨i,j⟩:=A2 h;rw [Aw i];cases d with
  |iface _ _ v' ab=>exact @VR.iface W.toVals _ _ a v' (G8 a _ o v' j g ab)
 |.nilIface,b,o,v,h,g,d=>by
  cases b<;>simp only [CH,reduceCtorEq] at h
  cases d;exact @VR.nilIface W.toVals _
 |.agg l,x,o,v,h,g,d=>by
  cases x<;>simp only [CH,reduceCtorEq] at h
  cases d with
  |agg _ R P Q=>
   have q:=DA l _ o R h g ⟨P,Q⟩;exact @VR.agg W.toVals _ l R q.1 q.2
 |.tuple l,x,o,v,h,g,d=>by
  cases x<;>simp only [CH,reduceCtorEq] at h
  cases d with
  |tuple _ R P Q=>
   have q:=DA l _ o R h g ⟨P,Q⟩;exact @VR.tuple W.toVals _ l R q.1 q.2
 |.sb p e,x,o,v,h,g,d=>by
  have key:∀{y:SE},C5 (e.inst θ) y=some o→Ah W.V e=Ah U.V y:=by
   intro y B;rw [hV,←Fh];exact Jz B g
  cases x<;>simp only [CH,reduceCtorEq] at h
  ·have:=key h;cases d;rename_i b;have q:=@VR.sb W.toVals (ρ.back β) p e;rw [this] at q;have C:((Ah U.V (.bc (b==p)))==p)=b:=by show ((b==p)==p)=b;cases b<;>cases p<;>rfl
   rw [C] at q;exact q
  ·split at h
   ·rename_i i;have:=key h;cases d;have S:=eq_of_beq i;subst S;rw [←this];exact @VR.sb W.toVals _ p e
   ·rename_i p' y _ i;have:=key h;cases d;have q:=@VR.sb W.toVals (ρ.back β) p e;rw [this] at q
    have C:(Ah U.V (.neg y)==p)=(Ah U.V y==p'):=by
     show ((!(Ah U.V y))==p)=_;cases p<;>cases p'<;>cases Ah U.V y<;>first|rfl | (simp at i)
    rw [C] at q;exact q
 |.si k e,x,o,v,h,g,d=>by
  have key:∀{y:SE},HC (e.inst θ) y=some o→Af W.V e=Af U.V y:=by
   intro y B;rw [hV,←QR];exact Uv B g
  cases x<;>simp only [CH,reduceCtorEq] at h
  ·obtain ⟨i,j⟩:=A2 h;have:=key j;cases d;have S:=of_decide_eq_true i;subst S;have q:=@VR.si W.toVals (ρ.back β) k e;rw [this,BC] at q;exact q
  ·obtain ⟨i,j⟩:=A2 h;have:=key j;cases d;have S:=of_decide_eq_true i;subst S;rw [←this];exact @VR.si W.toVals _ k e
 |.ss e,x,o,v,h,g,d=>by
  have key:∀{y:SE},MC (e.inst θ) y=some o→AU W.V e=AU U.V y:=by
   intro y B;unfold AU;rw [hV,←B2,GW B g]
  cases x<;>simp only [CH,reduceCtorEq] at h
  ·have:=key h;cases d;rename_i s;have q:=@VR.ss W.toVals (ρ.back β) e;rw [this] at q
   have C:AU U.V (.strc s.data.toList.length (Ay s.data.toList))=s:=by
    show (⟨(Ds _ _).toArray⟩:ByteArray)=s;rw [DZ (U:=U)]
   rw [C] at q;exact q
  ·have:=key h;cases d;rw [←this];exact @VR.ss W.toVals _ e
 |.dat t e,x,o,v,h,g,d=>by
  have key:∀{y:SE},MC (e.inst θ) y=some o→Ac W.V e=Ac U.V y:=by
   intro y B;rw [hV,←B2,GW B g]
  cases x<;>simp only [CH,reduceCtorEq] at h
  ·have:=key h;cases d;exact @VR.dat W.toVals _ t e _ _ _ (by rw [this];exact .nil t _ rfl rfl)
  ·obtain ⟨i,j⟩:=A2 h;have:=key j;rw [Aw i];cases d with
   |dat _ _ a n c hd=>exact @VR.dat W.toVals _ _ e a n c (by rw [this,hK];exact hd)
 |.dptr _ _ _ _,x,o,v,h,g,d=>by cases x<;>simp only [CH,reduceCtorEq] at h
 |.asl b J n z,x,o,v,h,g,d=>by
  have D:∀{a b:SE} {o:Obs},HC (a.inst θ) b=some o→o.holds U.V→Af W.V a=Af U.V b:=by
   intro a b o B g;rw [hV,←QR];exact Uv B g
  have E:∀{a b:SE} {o:Obs},C5 (a.inst θ) b=some o→o.holds U.V→Ah W.V a=Ah U.V b:=by
   intro a b o B g;rw [hV,←Fh];exact Jz B g
  cases x<;>simp only [CH,reduceCtorEq] at h
  ·
   obtain ⟨o1,o2,A,G,rfl⟩:=BJ h;obtain ⟨u,w⟩:=Obs.append g;have k1:=D A u;have k2:=E G w;cases d;exact @VR.aslEnd W.toVals _ b J n z none (by rw [k1];rfl) (by rw [k2];rfl)
  ·
   rename_i b' o' n' ac;obtain ⟨i,j⟩:=A2 h;obtain ⟨h5,L⟩:=Aq i;obtain ⟨M,h8⟩:=Aq h5;obtain ⟨o1,o2,A,G,rfl⟩:=BJ j;obtain ⟨u,w⟩:=Obs.append g;have k1:=D A u;have k2:=E G w;have C:Af W.V n=n':=by rw [k1];rfl
   have T:Ah W.V z=false:=by rw [k2];rfl
   have e3:=Aw h8;have e4:=Aw L;subst e3;subst e4;cases d with
   |slice _ _ _ _ H base F N O=>
    have q:=@VR.asl W.toVals (ρ.back β) b J n z H base (by rw [E2 M];exact F) (by rw [C];exact Int.natCast_nonneg _) (by rw [C];simpa using N) (by simpa using O) T
    rw [C] at q;simpa using q
   |sliceEnd _ _ _ a=>exact @VR.aslEnd W.toVals _ b J n z (some a) (by rw [C];rfl) (by rw [T];rfl)
  ·
   rename_i b' ac n' ad;obtain ⟨i,j⟩:=A2 h;obtain ⟨M,L⟩:=Aq i;obtain ⟨o1,o2,A,G,rfl⟩:=BJ j;obtain ⟨u,w⟩:=Obs.append g;have k1:=D A u;have k2:=E G w;have C:Af W.V n=Af U.V n':=k1;have T:Ah W.V z=Ah U.V ad:=k2;have e4:=Aw L;subst e4;cases d with
   |asl _ _ _ _ H base F h0 N O I=>
    rw [←C];exact @VR.asl W.toVals _ b J n z H base (by rw [E2 M];exact F) (by rw [C];exact h0) (by rw [C];exact N) O (by rw [T];exact I)
   |aslEnd _ _ _ _ a h0 I=>exact @VR.aslEnd W.toVals _ b J n z a (by rw [C];exact h0) (by rw [T];exact I)
  ·
   obtain ⟨o1,o2,A,G,rfl⟩:=BJ h;obtain ⟨u,w⟩:=Obs.append g;have k1:=D A u;have k2:=E G w;cases d with
   |eslc _ a I=>exact @VR.aslEnd W.toVals _ b J n z a (by rw [k1];rfl) (by rw [I];exact k2.symm)
 |.eslc z,x,o,v,h,g,d=>by
  have key:∀{b:SE},C5 (z.inst θ) b=some o→Ah W.V z=Ah U.V b:=by
   intro b B;rw [hV,←Fh];exact Jz B g
  cases x<;>simp only [CH,reduceCtorEq] at h
  ·have:=key h;cases d;exact @VR.eslc W.toVals _ z none (by rw [this];rfl)
  ·have:=key h;cases d with
   |eslc _ a I=>exact @VR.eslc W.toVals _ z a (by rw [I,this])
 |.aptr _ _ _ _,x,o,v,h,g,d=>by cases x<;>simp only [CH,reduceCtorEq] at h
 |.nmap b z,x,o,v,h,g,d=>by
  have key:∀{b:SE},C5 (z.inst θ) b=some o→Ah W.V z=Ah U.V b:=by
   intro b B;rw [hV,←Fh];exact Jz B g
  cases x<;>simp only [CH,reduceCtorEq] at h
  ·have:=key h;cases d;exact @VR.nmap0 W.toVals _ b z (by rw [this];rfl)
  ·obtain ⟨i,j⟩:=A2 h;have:=key j;cases d with
   |map _ base F=>exact @VR.nmap W.toVals _ b z base (by rw [E2 i];exact F) (by rw [this];rfl)
  ·obtain ⟨i,j⟩:=A2 h;have:=key j;cases d with
   |nmap _ _ base F I=>exact @VR.nmap W.toVals _ b z base (by rw [E2 i];exact F) (by rw [this];exact I)
   |nmap0 _ _ I=>exact @VR.nmap0 W.toVals _ b z (by rw [this];exact I)
theorem DA:∀(a b:List AV) (o:Obs) (Z:List Value),FW θ β a b=some o→o.holds U.V→@VL U.toVals ρ b Z→@VL W.toVals (ρ.back β) a Z
 |[],b,o,Z,h,g,d=>by
  cases b with
  |nil=>have:=VL.nil_inv (U:=U.toVals) d;subst this;exact VL.nil (U:=W.toVals) _
  |cons=>cases h
 |a::l,b,o,Z,h,g,d=>by
  cases b with
  |nil=>cases h
  |cons b m=>
   simp only [FW] at h;obtain ⟨o1,o2,i,j,rfl⟩:=BJ h;obtain ⟨u,w⟩:=Obs.append g;obtain ⟨v,r,rfl,X,Y⟩:=VL.cons_inv (U:=U.toVals) d;exact VL.cons (U:=W.toVals) (G8 a b o1 v i u X) (DA l m o2 r j w Y)
end
end
end Go.AE
namespace Go.AE
variable [Gl:AH]
def Ard (c:List SE) (d:List Nat):Option AV→Option AV→Option Obs
 |none,_=>some []
 |some a,some b=>CH c d a b
 |some _,none=>none
def leT (a:List SE) (b:List Nat):T AV→T AV→Option Obs
 |.nil,_=>some []
 |.node v l r,.node c d e=>DS (Ard a b v c) (DS (leT a b l d) (leT a b r e))
 |.node _ _ _,.nil=>none
def m5 (c:List SE) (d:List Nat):List Am→List Am→Option Obs
 |[],[]=>some []
 |a::l,b::m=>DQ (Nat.beq a.born b.born) (DS (CH c d a.key b.key) (DS (CH c d a.val b.val) (m5 c d l m)))
 |_,_=>none
def Aga:LoopState→LoopState→Bool
 |.ready,.ready=>true
 |.busy,.busy=>true
 |.done,.done=>true
 |.exhausted,.exhausted=>true
 |_,_=>false
theorem mK {a b:LoopState} (h:Aga a b=true):a=b:=by cases a<;>cases b<;>first|rfl | (cases h;done)
def TV [Facts] (E:Env) (g:List SE) (m:List Nat):Ab→Ab→Option Obs
 |.cells n c,.cells B C=>DQ (Nat.beq n B) (leT g m c C)
 |.arr e x,.arr D q=>DQ (Nat.beq e D) (MC (x.inst g) q)
 |.arr e x,.cells n c=>match E.kinds e with
  |some o=>match Nat.beq (n/o.length*o.length) n,c.range 0 n with
   |true,some l=>match DN o (n/o.length) .emptyL l with
    |some y=>MC (x.inst g) y
    |none=>none
   |_,_=>none
  |none=>none
 |.map p k,.map r s=>DQ (Nat.beq k s) (m5 g m p r)
 |.dmap k v x,.dmap s F q=>DQ (Nat.beq k s&&Nat.beq v F) (MC (x.inst g) q)
 |.dmap k v x,.map p h=>match E.kinds k,E.kinds v with
  |some t,some u=>match Pf t u .emptyL p with
   |some y=>DQ (Sl 0 p h) (MC (x.inst g) y)
   |none=>none
  |_,_=>none
 |.deferred none,.deferred none=>some []
 |.deferred (some []),.deferred (some [])=>some []
 |.loop st pending fn nt tmps params assign body d,.loop w a z A i b f j G=>
  DQ (Aga st w&&VT Cd pending a&&Nat.beq fn z&&Nat.beq nt A&&FS Nat.beq params b&&toB m d G) (DQ (Cd assign f&&Cd body j) (leT g m tmps i))
 |_,_=>none
def Abq [Facts] (E:Env) (a:List SE) (b:List Nat):Option Ab→Option Ab→Option Obs
 |none,_=>some []
 |some x,some y=>TV E a b x y
 |some _,none=>none
def En [Facts] (E:Env) (a:List SE) (c:List Nat) (h:Aa):List (Option Ab)→List Nat→Option Obs
 |[],[]=>some []
 |o::r,b::d=>DS (Abq E a c o (h.blk.get b)) (En E a c h r d)
 |_,_=>none
def E3:List Nat→Bool
 |[]=>true
 |b::r=>!H2 b r&&E3 r
def B9:List (Option Ab)→Nat→T Ab→T Ab
 |[],_,t=>t
 |some x::r,i,t=>B9 r (i+1) (t.set i x)
 |none::r,i,t=>B9 r (i+1) t
def Ba (l:List (Option Ab)):T Ab:=B9 l 0 .nil
theorem Od:∀(l:List (Option Ab)) (i:Nat) (t:T Ab) (j:Nat),(∀q,i≤q→t.get q=none)→(B9 l i t).get j=if i≤j then (l[j-i]?).join else t.get j:=by
 intro l
 induction l with
 |nil=>
  intro i t j b;simp only [B9];by_cases h:i≤j
  ·rw [if_pos h,b j h];rfl
  ·rw [if_neg h]
 |cons o r ih=>
  intro i t j b
  have key:∀a,(∀q,i+1≤q→a.get q=none)→a.get i=o→(∀q,q<i→a.get q=t.get q)→(B9 r (i+1) a).get j=if i≤j then ((o::r)[j-i]?).join else t.get j:=by
   intro a e f g;rw [ih (i+1) a j e];by_cases d:i+1≤j
   ·rw [if_pos d,if_pos (by omega),show j-i=(j-(i+1))+1 by omega,List.getElem?_cons_succ]
   ·rw [if_neg d];by_cases k:i=j
    ·subst k;rw [if_pos (Nat.le_refl _),f];simp
    ·rw [if_neg (by omega),g j (by omega)]
  cases o with
  |some x=>
   simp only [B9];refine key _ (fun q c=>?_) ?_ (fun q c=>?_)
   ·rw [T.get_set,if_neg (by omega),b q (by omega)]
   ·rw [T.get_set,if_pos rfl]
   ·rw [T.get_set,if_neg (by omega)]
  |none=>
   simp only [B9];exact key _ (fun q c=>b q (by omega)) (b i (Nat.le_refl _)) (fun q c=>rfl)
theorem Ce (l:List (Option Ab)) (j:Nat):(Ba l).get j=(l[j]?).join:=by
 rw [Ba,Od _ _ _ _ (fun q _=>T.get_nil _),if_pos (Nat.zero_le _)];simp
theorem Gh {b:Nat}:∀{l:List Nat},b∈l→H2 b l=true
 |c::r,h=>by
  simp only [H2,Bool.or_eq_true];rcases List.mem_cons.1 h with rfl|h
  ·exact .inl (Ff b)
  ·exact .inr (Gh h)
def EY (b:Nat):List (Option Ab)→List Nat→Bool
 |some _::r,c::a=>Nat.beq b c||EY b r a
 |none::r,_::a=>EY b r a
 |_,_=>false
def FI:List (Option Ab)→List Nat→Bool
 |some _::r,b::a=>!EY b r a&&FI r a
 |none::r,_::a=>FI r a
 |_,_=>true
theorem GX {b:Nat}:∀{l:List (Option Ab)} {e:List Nat},EY b l e=false→∀{j:Nat} {x:Ab},l[j]?=some (some x)→e[j]?=some b→False
 |[],_,_,j,x,d,_=>by simp at d
 |_::_,[],_,j,x,_,a=>by simp at a
 |some y::r,c::e,h,j,x,d,a=>by
  simp only [EY,Bool.or_eq_false_iff] at h;cases j with
  |zero=>simp only [List.getElem?_cons_zero,Option.some.injEq] at a;subst a;rw [Nat.beq_refl] at h;exact absurd h.1 (by simp)
  |succ j=>exact GX h.2 (by simpa using d) (by simpa using a)
 |none::r,c::e,h,j,x,d,a=>by
  simp only [EY] at h;cases j with
  |zero=>simp at d
  |succ j=>exact GX h (by simpa using d) (by simpa using a)
theorem Kx:∀{l:List (Option Ab)} {f:List Nat},FI l f=true→∀{i j b:Nat} {x y:Ab},l[i]?=some (some x)→l[j]?=some (some y)→f[i]?=some b→f[j]?=some b→i=j
 |[],_,_,i,j,b,x,y,d,_,_,_=>by simp at d
 |_::_,[],_,i,j,b,x,y,_,_,a,_=>by simp at a
 |none::r,c::f,h,i,j,b,x,y,d,g,a,e=>by
  simp only [FI] at h;cases i with
  |zero=>simp at d
  |succ i=>
   cases j with
   |zero=>simp at g
   |succ j=>exact congrArg (· + 1) (Kx h (i:=i) (j:=j) (b:=b) (x:=x) (y:=y) (by simpa using d) (by simpa using g) (by simpa using a) (by simpa using e))
 |some z::r,c::f,h,i,j,b,x,y,d,g,a,e=>by
  simp only [FI,Bool.and_eq_true,Bool.not_eq_true'] at h;cases i with
  |zero=>
   simp only [List.getElem?_cons_zero,Option.some.injEq] at a;subst a;cases j with
   |zero=>rfl
   |succ j=>exact (GX h.1 (by simpa using g) (by simpa using e)).elim
  |succ i=>
   cases j with
   |zero=>
    simp only [List.getElem?_cons_zero,Option.some.injEq] at e;subst e;exact (GX h.1 (by simpa using d) (by simpa using a)).elim
   |succ j=>exact congrArg (· + 1) (Kx h.2 (i:=i) (j:=j) (b:=b) (x:=x) (y:=y) (by simpa using d) (by simpa using g) (by simpa using a) (by simpa using e))
theorem QE:∀{l:List Nat},E3 l=true→∀{i j b:Nat},l[i]?=some b→l[j]?=some b→i=j
 |[],_,i,j,b,h,_=>by simp at h
 |c::r,h,i,j,b,hi,a=>by
  simp only [E3,Bool.and_eq_true,Bool.not_eq_true'] at h;cases i with
  |zero=>
   simp only [List.getElem?_cons_zero,Option.some.injEq] at hi;subst hi;cases j with
   |zero=>rfl
   |succ j=>
    simp only [List.getElem?_cons_succ] at a;rw [Gh (List.mem_of_getElem? a)] at h;cases h.1
  |succ i=>
   simp only [List.getElem?_cons_succ] at hi;cases j with
   |zero=>
    simp only [List.getElem?_cons_zero,Option.some.injEq] at a;subst a;rw [Gh (List.mem_of_getElem? hi)] at h;cases h.1
   |succ j=>
    simp only [List.getElem?_cons_succ] at a;rw [QE h.2 hi a]
section
variable {U W:Unk} {θ:List SE} (hV:W.V=U.V.inst θ) (hK:W.K=U.K) {β:List Nat} {ρ:Ren} {E:Env}
include hV hK
theorem mE {a b:Option AV} {o:Obs} (h:Ard θ β a b=some o) (c:o.holds U.V) {x:AV} (d:a=some x):∃y,b=some y∧∀v,@VR U.toVals ρ y v→@VR W.toVals (ρ.back β) x v:=by
 subst d;cases b with
 |none=>cases h
 |some y=>exact ⟨y,rfl,fun v e=>G8 hV hK x y o v h c e⟩
theorem N1:∀(p a:T AV) (o:Obs),leT θ β p a=some o→o.holds U.V→∀i x,p.get i=some x→∃y,a.get i=some y∧∀v,@VR U.toVals ρ y v→@VR W.toVals (ρ.back β) x v
 |.nil,a,o,h,c,i,x,b=>by simp [T.get_nil] at b
 |.node v l r,.nil,o,h,c,i,x,b=>by cases h
 |.node v l r,.node t j k,o,h,c,i,x,b=>by
  simp only [leT] at h;obtain ⟨o1,o2,m,n,rfl⟩:=BJ h;obtain ⟨o3,o4,q,s,rfl⟩:=BJ n;obtain ⟨d,e⟩:=Obs.append c;obtain ⟨f,g⟩:=Obs.append e;simp only [T.get_eq,T.get0] at b ⊢;split at b
  ·exact mE hV hK m d b
  ·split at b
   ·simp only [←T.get_eq] at b ⊢;exact N1 l j o3 q f _ x b
   ·simp only [←T.get_eq] at b ⊢;exact N1 r k o4 s g _ x b
theorem YI:∀(p a:List Am) (o:Obs) (c:List MapEntry),m5 θ β p a=some o→o.holds U.V→@ER U.toVals ρ a c→@ER W.toVals (ρ.back β) p c
 |[],[],o,c,h,k,d=>by cases c<;>simp_all [ER]
 |a::l,b::m,o,c,h,k,d=>by
  simp only [m5] at h;obtain ⟨n,h⟩:=A2 h;obtain ⟨o1,o2,q,s,rfl⟩:=BJ h;obtain ⟨o3,o4,t,u,rfl⟩:=BJ s;obtain ⟨f,g⟩:=Obs.append k;obtain ⟨i,j⟩:=Obs.append g;cases c with
  |nil=>simp [ER] at d
  |cons e r=>
   obtain ⟨v,w,x,y⟩:=d;exact ⟨G8 hV hK _ _ _ _ q f v,G8 hV hK _ _ _ _ t i w,by rw [x,Aw n],YI l m o4 r u j y⟩
 |[],_::_,o,c,h,_,_=>by cases h
 |_::_,[],o,c,h,_,_=>by cases h
theorem eN (hE:@OK _ U E) {x y:Ab} {o:Obs} {base:Bt} {ob:Option Obj} (h:@TV U.toFacts E θ β x y=some o) (z:o.holds U.V) (s:@BR U.toVals ρ y base ob):@BR W.toVals (ρ.back β) x base ob:=by
 unfold TV at h;split at h
 ·
  rename_i n c n' c';obtain ⟨d,t⟩:=A2 h;rw [Aw d];obtain ⟨f,e,G,r,j,A,B,C⟩:=s;refine ⟨f,e,G,r,j,A,B,fun i a hi L=>?_⟩
  obtain ⟨y,H,F⟩:=N1 hV hK (ρ:=ρ) c c' o t z i a L;obtain ⟨v,N,O⟩:=C i y hi H;exact ⟨v,N,F v O⟩
 ·
  rename_i e x e' P;obtain ⟨d,t⟩:=A2 h;rw [Aw d];obtain ⟨I,f,Q,G,r,j,A,B,C⟩:=s;have u:Ac W.V x=Ac U.V P:=by rw [hV,←B2,GW t z]
  exact ⟨I,f,Q,G,by rw [hK];exact r,j,A,B,by rw [u,hK];exact C⟩
 ·
  rename_i e x n c;split at h
  ·rename_i I R;split at h
   ·rename_i l hn hl;split at h
    ·rename_i y S;obtain ⟨f,Q,G,r,j,A,B,C⟩:=s;have D:U.K e=some I:=by rw [OK.kd (U:=U) hE,←OK.ke (U:=U) hE];exact R
     have u:Ac W.V x=Ac U.V y:=by rw [hV,←B2,GW h z]
     obtain ⟨l1,l2⟩:=T.range_spec c _ _ _ hl
     have X:@VL U.toVals ρ l ((f.toList.drop base.co).take n):=by
      refine ⟨by simp [l1];omega,fun i a v L M=>?_⟩
      have hi:i<n:=by have:=(List.getElem?_eq_some_iff.1 L).1;omega
      have:=l2 i hi;rw [Nat.zero_add,L] at this;obtain ⟨v',N,O⟩:=C i a hi this;rw [List.getElem?_take,if_pos hi,List.getElem?_drop,Array.getElem?_toList,N] at M;cases M;exact O
     obtain ⟨rs,r1,Y,r3⟩:=@Fa _ U ρ I _ _ _ _ _ S X;have er:(Ac U.V y).rows=rs:=by rw [Y];rfl
     have w:((f.toList.drop base.co).take n).length=n:=by simp;omega
     refine ⟨I,f,Q,G,by rw [hK];exact D,r,j,B,?_⟩
     rw [u,er,hK]
     exact r3.at (by rw [w,j];exact A) (fun q hq=>by
      rw [w] at hq;rw [List.getElem?_take,if_pos hq,List.getElem?_drop,Array.getElem?_toList])
    ·cases h
   ·cases h
  ·cases h
 ·
  obtain ⟨d,t⟩:=A2 h;rw [Aw d];obtain ⟨g,r,j⟩:=s;exact ⟨g,r,YI hV hK _ _ _ _ t z j⟩
 ·
  rename_i k v x k' v' P;obtain ⟨d,t⟩:=A2 h;obtain ⟨Z,c2⟩:=Aq d;rw [Aw Z,Aw c2];obtain ⟨m,p,g,b,r,j,A,B,C⟩:=s;have u:Ac W.V x=Ac U.V P:=by rw [hV,←B2,GW t z]
  exact ⟨m,p,g,b,by rw [hK];exact r,by rw [hK];exact j,A,by rw [u,hK];exact B,C⟩
 ·
  rename_i k v x es b;split at h
  ·rename_i m p R M;split at h
   ·rename_i y S;obtain ⟨J,h⟩:=A2 h;obtain ⟨g,r,j⟩:=s;have D:U.K k=some m:=by rw [OK.kd (U:=U) hE,←OK.ke (U:=U) hE];exact R
    have aa:U.K v=some p:=by rw [OK.kd (U:=U) hE,←OK.ke (U:=U) hE];exact M
    have u:Ac W.V x=Ac U.V y:=by rw [hV,←B2,GW h z]
    have q:A9 U.K ρ.imm m p ([]++g) (Ac U.V y).rows:=@O3 _ U ρ m p _ _ _ _ [] S j trivial;rw [List.nil_append] at q;exact ⟨m,p,g,b,by rw [hK];exact D,by rw [hK];exact aa,r,by rw [u,hK];exact q,(@RS _ U.toVals ρ es g 0 b J j).2⟩
   ·cases h
  ·cases h
 ·exact s
 ·obtain ⟨l',H,F⟩:=s;cases l' with
  |nil=>exact ⟨[],trivial,F⟩
  |cons=>exact H.elim
 ·
  obtain ⟨d,t⟩:=A2 h;obtain ⟨h3,h4⟩:=A2 t;obtain ⟨d,c6⟩:=Aq d;obtain ⟨d,c5⟩:=Aq d;obtain ⟨d,c4⟩:=Aq d;obtain ⟨d,c3⟩:=Aq d;obtain ⟨Z,c2⟩:=Aq d;obtain ⟨c7,c8⟩:=Aq h3;have u:=mK Z;have e2:=JO (fun _ _=>D6) c2
  have e3:=Aw c3;have e4:=Aw c4;have e5:=G4 (fun _ _=>AZ) c5
  have e7:=D6 c7;have e8:=D6 c8;subst u;subst e2;subst e3;subst e4;subst e5;subst e7;subst e8;obtain ⟨tm,bd,H,F,q3⟩:=s;refine ⟨tm,bd,by rw [E2 c6];exact H,@TR.mk W.toVals (ρ.back β) _ _ _ (@TR.size U.toVals ρ _ _ _ F) (fun i x hx=>?_),q3⟩
  obtain ⟨y,r1,Y⟩:=N1 hV hK (ρ:=ρ) _ _ o h4 z i x hx;exact Y _ (@TR.get U.toVals ρ _ _ _ F i y r1)
 ·cases h
theorem Da {h:Aa}:∀(l:List (Option Ab)) (d:List Nat) (o:Obs),@En U.toFacts E θ β h l d=some o→o.holds U.V→l.length=d.length∧∀(i:Nat) x,l[i]?=some (some x)→∃b y k,d[i]?=some b∧h.blk.get b=some y∧@TV U.toFacts E θ β x y=some k∧k.holds U.V
 |[],[],o,h,m=>⟨rfl,fun i x c=>by simp at c⟩
 |a::l,b::d,o,h,m=>by
  simp only [En] at h;obtain ⟨o1,o2,e,n,rfl⟩:=BJ h;obtain ⟨f,g⟩:=Obs.append m;obtain ⟨p,q⟩:=Da l d o2 n g;refine ⟨by simp [p],fun i x c=>?_⟩
  cases i with
  |zero=>
   simp only [List.getElem?_cons_zero,Option.some.injEq] at c;subst c;cases j:(_:Aa).blk.get b with
   |none=>rw [j] at e;cases e
   |some y=>rw [j] at e;exact ⟨b,y,o1,rfl,j,e,f⟩
  |succ i=>
   simp only [List.getElem?_cons_succ] at c ⊢;exact q i x c
 |[],_::_,o,h,_=>by cases h
 |_::_,[],o,h,_=>by cases h
theorem HR.toPatL (hE:@OK _ U E) {h:Aa} {w:World} {l:List (Option Ab)} {o:Obs} (hr:@HR _ U.toVals ρ h.blk.get w) (hl:@En U.toFacts E θ β h l β=some o) (ho:o.holds U.V) (hn:FI l β=true):@HR _ W.toVals (ρ.back β) (Ba l).get w:=by
 obtain ⟨q1,q2⟩:=Da hV hK l β o hl ho
 have at_:∀b base,(ρ.back β).m b=some base→∃c,β[b]?=some c∧ρ c=some base:=by
  intro b base i;simp only [Ren.back] at i;cases hc:β[b]? with
  |none=>rw [hc] at i;cases i
  |some c=>rw [hc] at i;exact ⟨c,rfl,i⟩
 have live:∀b,(Ba l).get b≠none→∃x c y o',(Ba l).get b=some x∧β[b]?=some c∧h.blk.get c=some y∧@TV U.toFacts E θ β x y=some o'∧o'.holds U.V:=by
  intro b i;rw [Ce] at i ⊢;cases r:l[b]? with
  |none=>rw [r] at i;exact absurd rfl i
  |some ox=>
   cases ox with
   |none=>rw [r] at i;exact absurd rfl i
   |some x=>
    obtain ⟨c,y,o',a1,a2,a3,a4⟩:=q2 b x r;exact ⟨x,c,y,o',rfl,a1,a2,a3,a4⟩
 refine ⟨fun b base i=>?_,fun b base x i r=>?_,fun b b' base base' an i ar h1 h2=>?_,fun k arr hk=>HR.imm (U:=U.toVals) (ρ:=ρ) hr k arr hk,fun k arr b base hk i hl=>?_,HR.glob (U:=U.toVals) (ρ:=ρ) hr⟩
 ·obtain ⟨c,t,C⟩:=at_ b base i;exact HR.lt (U:=U.toVals) hr c base C
 ·obtain ⟨x',c,y,o',e1,I,J,e4,e5⟩:=live b (by rw [r];exact Option.some_ne_none _)
  rw [r] at e1;cases e1;obtain ⟨c',t,C⟩:=at_ b base i;rw [I] at t;cases t;exact eN hV hK hE e4 e5 (HR.blk (U:=U.toVals) hr c base y C J)
 ·obtain ⟨c,t,C⟩:=at_ b base i;obtain ⟨c',ab,av⟩:=at_ b' base' ar;obtain ⟨_,d,y,_,_,I,J,_,_⟩:=live b h1;obtain ⟨_,d',y',_,_,al,a6,_,_⟩:=live b' h2;rw [t] at I;cases I;rw [ab] at al;cases al;refine HR.apart (U:=U.toVals) hr c c' base base' (fun e=>?_) C av (by rw [J];exact Option.some_ne_none _) (by rw [a6];exact Option.some_ne_none _)
  subst e
  have j:∀b,(Ba l).get b≠none→∃x,l[b]?=some (some x):=by
   intro b i;rw [Ce] at i;cases r:l[b]? with
   |none=>rw [r] at i;exact absurd rfl i
   |some ox=>
    cases ox with
    |none=>rw [r] at i;exact absurd rfl i
    |some x=>exact ⟨x,rfl⟩
  obtain ⟨x1,l1⟩:=j b h1;obtain ⟨x2,l2⟩:=j b' h2;exact an (Kx hn l1 l2 t ab)
 ·obtain ⟨c,t,C⟩:=at_ b base i;obtain ⟨_,d,y,_,_,I,J,_,_⟩:=live b hl;rw [t] at I;cases I;exact HR.off (U:=U.toVals) hr k arr c base hk C (by rw [J];exact Option.some_ne_none _)
omit hV hK in
theorem dF {l:List (Option Ab)} {bs:List Nat} (h:E3 bs=true):FI l bs=true:=by
 induction l generalizing bs with
 |nil=>rfl
 |cons o r ih=>
  cases bs with
  |nil=>cases o<;>rfl
  |cons b bs=>
   simp only [E3,Bool.and_eq_true,Bool.not_eq_true'] at h;cases o with
   |none=>exact ih h.2
   |some x=>
    simp only [FI,Bool.and_eq_true,Bool.not_eq_true'];refine ⟨?_,ih h.2⟩;cases hq:EY b r bs with
    |false=>rfl
    |true=>
     exfalso
     have:∀(r:List (Option Ab)) (bs:List Nat),EY b r bs=true→H2 b bs=true:=by
      intro r
      induction r with
      |nil=>intro bs h;cases bs<;>cases h
      |cons o r ih2=>
       intro bs h;cases bs with
       |nil=>cases o<;>cases h
       |cons c bs=>
        cases o with
        |none=>simp only [EY] at h;simp [H2,ih2 bs h]
        |some x=>
         simp only [EY,Bool.or_eq_true] at h;simp only [H2,Bool.or_eq_true];exact h.imp id (ih2 bs)
     rw [this r bs hq] at h;exact absurd h.1 (by simp)
theorem HR.toPat (hE:@OK _ U E) {h:Aa} {w:World} {l:List (Option Ab)} {o:Obs} (hr:@HR _ U.toVals ρ h.blk.get w) (i:@En U.toFacts E θ β h l β=some o) (j:o.holds U.V) (t:E3 β=true):@HR _ W.toVals (ρ.back β) (Ba l).get w:=
 HR.toPatL hV hK hE hr i j (dF t)
end
end Go.AE
namespace Go.AE
variable [Gl:AH]
def XW (a:List Nat):Fn→Fn
 |.yield l=>.yield (a.getD l 0)
 |f=>f
mutual
def AV.inst [Facts] (j:List SE) (r:List Nat):AV→AV
 |.top=>.top
 |.bool b=>.bool b
 |.int k n=>.int k n
 |.str l b=>.str l b
 |.ptr0=>.ptr0
 |.ptr b o=>.ptr (r.getD b 0) o
 |.slice0=>.slice0
 |.slice b o n es=>.slice (r.getD b 0) o n es
 |.map0=>.map0
 |.map b=>.map (r.getD b 0)
 |.func fn f c=>.func (XW r fn) (AV.instL j r f) (AV.instL j r c)
 |.nilFunc=>.nilFunc
 |.iface t v=>.iface t (AV.inst j r v)
 |.nilIface=>.nilIface
 |.agg l=>.agg (AV.instL j r l)
 |.tuple l=>.tuple (AV.instL j r l)
 |.sb p e=>mkB p (e.inst j)
 |.si k e=>mkI k (e.inst j)
 |.ss x=>.ss (x.inst j)
 |.dat e x=>.dat e (x.inst j)
 |.dptr e x i off=>.dptr e (x.inst j) (i.inst j) off
 |.asl b es n C=>.asl (r.getD b 0) es (n.inst j) (C.inst j)
 |.eslc C=>.eslc (C.inst j)
 |.aptr b es i off=>.aptr (r.getD b 0) es (i.inst j) off
 |.nmap b C=>.nmap (r.getD b 0) (C.inst j)
 |.stamp b=>.stamp (r.getD b 0)
 |.glob g off=>.glob g off
termination_by structural a=>a
def AV.instL [Facts] (j:List SE) (r:List Nat):List AV→List AV
 |[]=>[]
 |a::l=>AV.inst j r a::AV.instL j r l
termination_by structural l=>l
end
def T.mapA {i j:Type} (f:i→j):T i→T j
 |.nil=>.nil
 |.node v l r=>.node (match v with|some x=>some (f x)|none=>none) (l.mapA f) (r.mapA f)
def Yb [Facts] (a:List SE) (b:List Nat):List Am→List Am
 |[]=>[]
 |e::r=>{key:=e.key.inst a b,val:=e.val.inst a b,born:=e.born}::Yb a b r
def Ab.inst [Facts] (i:List SE) (j:List Nat):Ab→Option Ab
 |.cells n c=>some (.cells n (c.mapA (AV.inst i j)))
 |.arr e x=>some (.arr e (x.inst i))
 |.map l k=>some (.map (Yb i j l) k)
 |.dmap k v x=>some (.dmap k v (x.inst i))
 |.deferred none=>some (.deferred none)
 |.deferred (some [])=>some (.deferred (some []))
 |.loop st pending fn nt tmps params assign body d=>some (.loop st pending fn nt (tmps.mapA (AV.inst i j)) params assign body (j.getD d 0))
 |_=>none
theorem T.get_mapA {j C:Type} (f:j→C):∀(t:T j) (i:Nat),(t.mapA f).get i=(t.get i).map f
 |.nil,i=>by rw [T.mapA,T.get_nil,T.get_nil];rfl
 |.node v l r,i=>by
  simp only [T.mapA,T.get_eq,T.get0];split
  ·cases v<;>rfl
  ·split
   ·simp only [←T.get_eq];exact T.get_mapA f l _
   ·simp only [←T.get_eq];exact T.get_mapA f r _
section
variable {U W:Unk} {θ:List SE} (hV:W.V=U.V.inst θ) (hK:W.K=U.K) {β:List Nat} {σ τ:Ren}
 (hβ:∀b base,σ b=some base→τ (β.getD b 0)=some base) (hM:∀k a,σ.imm k=some a→τ.imm k=some a)
include hV hK hβ hM
omit hK in
theorem Cf {e:SE}:Ac U.V (e.inst θ)=Ac W.V e:=by rw [B2,hV]
theorem bW {f g:Fn} (h:FnR σ f g):FnR τ (XW β f) g:=by
 cases f<;>simp only [FnR,XW] at h ⊢<;>first|exact h|skip
 obtain ⟨base,c,d⟩:=h;exact ⟨base,hβ _ _ c,d⟩
mutual
theorem FL:∀(a:AV) (v:Value),@VR W.toVals σ a v→@VR U.toVals τ (@AV.inst U.toFacts θ β a) v
 |.top,v,h=>@VR.top U.toVals _ v
 |.bool b,v,h=>by cases h;exact @VR.bool U.toVals _ _
 |.int k n,v,h=>by cases h;exact @VR.int U.toVals _ _ _
 |.str l b,v,h=>by cases h;exact @VR.str U.toVals _ _
 |.ptr0,v,h=>by cases h;exact @VR.ptr0 U.toVals _
 |.ptr b o,v,h=>by
  cases h with
  |ptr _ _ base j=>exact @VR.ptr U.toVals _ _ o base (hβ _ _ j)
 |.slice0,v,h=>by cases h;exact @VR.slice0 U.toVals _
 |.slice b o n w,v,h=>by
  cases h with
  |slice _ _ _ _ m base j F G=>exact @VR.slice U.toVals _ _ o n w m base (hβ _ _ j) F G
  |sliceEnd _ _ _ a=>exact @VR.sliceEnd U.toVals _ _ o w a
 |.map0,v,h=>by cases h;exact @VR.map0 U.toVals _
 |.map b,v,h=>by
  cases h with
  |map _ base j=>exact @VR.map U.toVals _ _ base (hβ _ _ j)
 |.func fn f c,v,h=>by
  cases h with
  |func _ H _ _ J L z A N O P=>
   have C:=GG f J ⟨A,N⟩;have D:=GG c L ⟨O,P⟩;exact @VR.func U.toVals _ _ H _ _ J L (bW hV hK hβ hM z) C.1 C.2 D.1 D.2
 |.nilFunc,v,h=>by cases h;exact @VR.nilFunc U.toVals _
 |.iface t a,v,h=>by
  cases h with
  |iface _ _ M Q=>exact @VR.iface U.toVals _ t _ M (FL a M Q)
 |.nilIface,v,h=>by cases h;exact @VR.nilIface U.toVals _
 |.agg l,v,h=>by
  cases h with
  |agg _ B z A=>
   have q:=GG l B ⟨z,A⟩;exact @VR.agg U.toVals _ _ B q.1 q.2
 |.tuple l,v,h=>by
  cases h with
  |tuple _ B z A=>
   have q:=GG l B ⟨z,A⟩;exact @VR.tuple U.toVals _ _ B q.1 q.2
 |.sb p e,v,h=>by
  cases h;have:=@Gs _ U τ p (e.inst θ);have d:Ah U.V (e.inst θ)=Ah W.V e:=by unfold Ah;rw [Cf hV hβ hM]
  rw [d] at this;exact this
 |.si k e,v,h=>by
  cases h;have:=@Co _ U τ k (e.inst θ);have d:Af U.V (e.inst θ)=Af W.V e:=by unfold Af;rw [Cf hV hβ hM]
  rw [d] at this;exact this
 |.ss x,v,h=>by
  cases h;have d:AU U.V (x.inst θ)=AU W.V x:=by unfold AU;rw [Cf hV hβ hM]
  have:=@VR.ss U.toVals τ (x.inst θ);rw [d] at this;exact this
 |.dat e x,v,h=>by
  cases h with
  |dat _ _ a n c I=>exact @VR.dat U.toVals τ e _ a n c (by rw [Cf hV hβ hM,←hK];exact I.mono hM)
 |.dptr e x i off,v,h=>by
  cases h with
  |dptr _ _ _ _ b o n m R I S h0 hi T=>
   have d:Af U.V (i.inst θ)=Af W.V i:=by unfold Af;rw [Cf hV hβ hM]
   have:=@VR.dptr U.toVals τ e (x.inst θ) (i.inst θ) off b o n m R (by rw [Cf hV hβ hM,←hK];exact I.mono hM) (by rw [←hK];exact S) (by rw [d];exact h0) (by rw [d];exact hi) T
   rw [d] at this;exact this
 |.asl b w n s,v,h=>by
  have d:Af U.V (n.inst θ)=Af W.V n:=by unfold Af;rw [Cf hV hβ hM]
  have y:Ah U.V (s.inst θ)=Ah W.V s:=by unfold Ah;rw [Cf hV hβ hM]
  cases h with
  |asl _ _ _ _ m base j h0 F G u=>
   have:=@VR.asl U.toVals τ _ w (n.inst θ) (s.inst θ) m base (hβ _ _ j) (by rw [d];exact h0) (by rw [d];exact F) G (by rw [y];exact u)
   rw [d] at this;exact this
  |aslEnd _ _ _ _ a h0 u=>exact @VR.aslEnd U.toVals τ _ w _ _ a (by rw [d];exact h0) (by rw [y];exact u)
 |.eslc s,v,h=>by
  have y:Ah U.V (s.inst θ)=Ah W.V s:=by unfold Ah;rw [Cf hV hβ hM]
  cases h with
  |eslc _ a u=>exact @VR.eslc U.toVals τ _ a (by rw [y];exact u)
 |.aptr b w i off,v,h=>by
  have d:Af U.V (i.inst θ)=Af W.V i:=by unfold Af;rw [Cf hV hβ hM]
  cases h with
  |aptr _ _ _ _ base j h0=>
   have:=@VR.aptr U.toVals τ _ w (i.inst θ) off base (hβ _ _ j) (by rw [d];exact h0)
   rw [d] at this;exact this
 |.nmap b s,v,h=>by
  have y:Ah U.V (s.inst θ)=Ah W.V s:=by unfold Ah;rw [Cf hV hβ hM]
  cases h with
  |nmap _ _ base j u=>exact @VR.nmap U.toVals τ _ _ base (hβ _ _ j) (by rw [y];exact u)
  |nmap0 _ _ u=>exact @VR.nmap0 U.toVals τ _ _ (by rw [y];exact u)
 |.stamp b,v,h=>by
  cases h with
  |stamp _ base j=>exact @VR.stamp U.toVals τ _ base (hβ _ _ j)
 |.glob g off,v,h=>by cases h;exact @VR.glob U.toVals _ _ _
theorem GG:∀(l:List AV) (E:List Value),@VL W.toVals σ l E→@VL U.toVals τ (@AV.instL U.toFacts θ β l) E
 |[],E,h=>by have:=VL.nil_inv (U:=W.toVals) h;subst this;exact VL.nil (U:=U.toVals) _
 |a::l,E,h=>by
  obtain ⟨v,r,rfl,C,D⟩:=VL.cons_inv (U:=W.toVals) h;exact VL.cons (U:=U.toVals) (FL a v C) (GG l r D)
end
theorem Qi:∀(l:List Am) (c:List MapEntry),@ER W.toVals σ l c→@ER U.toVals τ (@Yb U.toFacts θ β l) c
 |[],[],_=>trivial
 |a::l,e::r,h=>⟨FL hV hK hβ hM _ _ h.1,FL hV hK hβ hM _ _ h.2.1,h.2.2.1,Qi l r h.2.2.2⟩
theorem W5 {x y:Ab} {base:Bt} {ob:Option Obj} (h:@Ab.inst U.toFacts θ β x=some y) (d:@BR W.toVals σ x base ob):@BR U.toVals τ y base ob:=by
 unfold Ab.inst at h;split at h
 ·cases h;obtain ⟨f,e,r,g,j,m,n,o⟩:=d;refine ⟨f,e,r,g,j,m,n,fun i a hi p=>?_⟩
  rw [T.get_mapA] at p;cases c:(_:T AV).get i with
  |none=>rw [c] at p;cases p
  |some a0=>
   rw [c] at p;cases p;obtain ⟨v,A,B⟩:=o i a0 hi c;exact ⟨v,A,FL hV hK hβ hM _ _ B⟩
 ·cases h;obtain ⟨C,f,D,r,g,j,m,n,o⟩:=d;exact ⟨C,f,D,r,by rw [←hK];exact g,j,m,n,by rw [Cf hV hβ hM,←hK];exact o.mono hM⟩
 ·cases h;obtain ⟨E,g,j⟩:=d;exact ⟨E,g,Qi hV hK hβ hM _ _ j⟩
 ·cases h;obtain ⟨s,t,u,l,g,j,m,n,o⟩:=d;exact ⟨s,t,u,l,by rw [←hK];exact g,by rw [←hK];exact j,m,by rw [Cf hV hβ hM,←hK];exact n.mono hM,o⟩
 ·cases h;exact d
 ·cases h;obtain ⟨F,w,q⟩:=d;cases F with
  |nil=>exact ⟨[],trivial,q⟩
  |cons=>exact w.elim
 ·cases h;obtain ⟨tm,G,w,q,H⟩:=d;refine ⟨tm,G,hβ _ _ w,@TR.mk U.toVals τ _ _ _ (@TR.size W.toVals σ _ _ _ q) (fun i x c=>?_),H⟩
  rw [T.get_mapA] at c;cases z:(_:T AV).get i with
  |none=>rw [z] at c;cases c
  |some a0=>
   rw [z] at c;cases c;exact FL hV hK hβ hM _ _ (@TR.get W.toVals σ _ _ _ q i a0 z)
 ·cases h
end
end Go.AE

